/- record: Right, Same, and what they call. -/
import Derived.Test.YtkiiangookibnaaZRecordTellsRcP
import Derived.Test.YtkiiangookibnaaZRecordTellsWkG
import Derived.Test.YtkiiangookibnaaZRecordTellsByWO
import Derived.Test.YtkiiangookibnaaZRecordTellsFlat
set_option linter.unusedVariables false
set_option linter.unusedSimpArgs false
namespace Go.Proofs.Ytkiiangookibnaa
open Go.RowKit Go.Proofs.YtkiiangookibnaaW.PrintWords Go.Proofs.YtkiiangookibnaaW.PrintLast
abbrev U4k1 (l : List Value) : List Value := undef :: undef :: undef :: undef :: l
abbrev U8k1 (l : List Value) : List Value := U4k1 (U4k1 l)
abbrev U16k1 (l : List Value) : List Value := U8k1 (U8k1 l)
abbrev U32k1 (l : List Value) : List Value := U16k1 (U16k1 l)
theorem bqI (a b : Int) : (a == b) = decide (a = b) := rfl
theorem part_one {P : Program} {w : World} {e o : Nat} {cs : Array Value} {u : Value} (hna : oneT P e = true) (h : cs[o]? = some u) : (part e cs o).run P w = .ok u w := by
  simp only [part, Sem.run_bind, run_oneT hna, Result.andThen_ok, h]
  simp
theorem part_agg {P : Program} {w : World} {e o n : Nat} {cs : Array Value} {us : Array Value} (hna : aggT P e = true) (hz : (P.info? e).map (·.size) = some n) (h : cs.extract o (o + n) = us) : (part e cs o).run P w = .ok (.agg us) w := by
  cases hq : P.info? e with
  | none => simp [hq] at hz
  | some i =>
    have hs : i.size = n := by simpa [hq] using hz
    simp [part, Sem.run_bind, run_aggT hna, sizeOf, typeInfo, hq, hs, h]
theorem eqFields_of {P : Program} {w : World} (d : Nat) (xs ys : Array Value) : ∀ (sp : List (Nat × Nat × Bool)) (fs : List Field), (fs.map fun f => (f.name == "_", f.type, f.offset)) = sp.map (fun s => (false, s.1, s.2.1)) → (∀ s ∈ sp, ∃ a b, (part s.1 xs s.2.1).run P w = .ok a w ∧ (part s.1 ys s.2.1).run P w = .ok b w ∧ (Op.equalIn d s.1 a b).run P w = .ok s.2.2 w) → (Op.eqFields d xs ys fs).run P w = .ok (sp.all (·.2.2)) w
  | [], [], _, _ => rfl
  | [], f :: fs, h, _ => by simp at h
  | s :: sp, [], h, _ => by simp at h
  | s :: sp, f :: fs, h, hs => by
    simp only [List.map_cons, List.cons.injEq, Prod.mk.injEq] at h
    obtain ⟨⟨n1, t1, o1⟩, h2⟩ := h
    have m1 : f.name ≠ "_" := by simpa using n1
    obtain ⟨a, b, p1, p2, he⟩ := hs s (.head _)
    have ih := eqFields_of d xs ys sp fs h2 (fun s hm => hs s (.tail _ hm))
    simp only [Op.eqFields, if_pos m1, t1, o1, Sem.run_bind, p1, p2, Result.andThen_ok, he]
    cases hb : s.2.2
    · simp [List.all_cons, hb]
    · simp only [Bool.not_true, Bool.false_eq_true, if_false, List.all_cons, hb, Bool.true_and]
      exact ih
theorem equalIn_lb (w : World) (n : Nat) (a b c d : Int) : (Op.equalIn (n + 2) 28 (.agg #[Value.int .u32 a, Value.int .u32 b]) (.agg #[Value.int .u32 c, Value.int .u32 d])).run Try.prog w = .ok (decide (a = c ∧ b = d)) w := by
  rw [run_equalIn_struct w (n + 1) 28 _ _ (by kernel_rfl) (by kernel_rfl)]
  rw [eqFields_of (n + 1) _ _ [(26, 0, a == c), (26, 1, b == d)] _ (by kernel_rfl) (fun s hm => by
    have hna : oneT Try.prog 26 = true := by kernel_rfl
    rcases List.mem_cons.1 hm with rfl | hm
    · exact ⟨_, _, part_one hna rfl, part_one hna rfl, run_equalIn_int w n 26 .u32 .u32 a c Try.underlying26⟩
    · obtain rfl := List.mem_singleton.1 hm
      exact ⟨_, _, part_one hna rfl, part_one hna rfl, run_equalIn_int w n 26 .u32 .u32 b d Try.underlying26⟩)]
  simp only [List.all_cons, List.all_nil, Bool.and_true, Bool.decide_and, bqI]
theorem equal_lb (w : World) (a b c d : Int) : (Op.equal 28 (.agg #[Value.int .u32 a, Value.int .u32 b]) (.agg #[Value.int .u32 c, Value.int .u32 d])).run Try.prog w = .ok (decide (a = c ∧ b = d)) w := equalIn_lb w 9998 a b c d
theorem equal_sn (w : World) (x y : Sn) : (Op.equal 48 (.agg (snC x).toArray) (.agg (snC y).toArray)).run Try.prog w = .ok (decide (x = y)) w := by
  show (Op.equalIn (9999 + 1) 48 _ _).run Try.prog w = _
  rw [run_equalIn_struct w 9999 48 _ _ (by kernel_rfl) (by kernel_rfl)]
  rw [eqFields_of 9999 _ _ [(28, 0, decide (x.1 = y.1 ∧ x.2.1 = y.2.1)), (3, 2, x.2.2.1 == y.2.2.1), (26, 3, x.2.2.2 == y.2.2.2)] _ (by kernel_rfl) (fun s hm => by
    have hi : oneT Try.prog 3 = true := by kernel_rfl
    have hu : oneT Try.prog 26 = true := by kernel_rfl
    simp only [List.mem_cons, List.not_mem_nil, or_false] at hm
    rcases hm with rfl | rfl | rfl
    · exact ⟨_, _, part_agg (n := 2) (by kernel_rfl) (by kernel_rfl) rfl, part_agg (n := 2) (by kernel_rfl) (by kernel_rfl) rfl, equalIn_lb w 9997 x.1 x.2.1 y.1 y.2.1⟩
    · exact ⟨_, _, part_one hi rfl, part_one hi rfl, run_equalIn_int w 9998 3 .i64 .i64 x.2.2.1 y.2.2.1 Try.underlying3⟩
    · exact ⟨_, _, part_one hu rfl, part_one hu rfl, run_equalIn_int w 9998 26 .u32 .u32 x.2.2.2 y.2.2.2 Try.underlying26⟩)]
  obtain ⟨a, b, c, d⟩ := x
  obtain ⟨a', b', c', d'⟩ := y
  simp only [List.all_cons, List.all_nil, Bool.and_true, bqI, ← Bool.decide_and, Prod.mk.injEq, and_assoc]
theorem equal_sg (w : World) (s te tq be bq nx tt rt s' te' tq' be' bq' nx' tt' rt' : Int) : (Op.equal 32 (.agg #[.int .u64 s, .int .u32 te, .int .u32 tq, .int .u32 be, .int .u32 bq, .int .i64 nx, .int .i64 tt, .int .i64 rt]) (.agg #[.int .u64 s', .int .u32 te', .int .u32 tq', .int .u32 be', .int .u32 bq', .int .i64 nx', .int .i64 tt', .int .i64 rt'])).run Try.prog w = .ok (decide (s = s' ∧ (te = te' ∧ tq = tq') ∧ (be = be' ∧ bq = bq') ∧ nx = nx' ∧ tt = tt' ∧ rt = rt')) w := by
  show (Op.equalIn (9999 + 1) 32 _ _).run Try.prog w = _
  rw [run_equalIn_struct w 9999 32 _ _ (by kernel_rfl) (by kernel_rfl)]
  rw [eqFields_of 9999 _ _ [(30, 0, s == s'), (28, 1, decide (te = te' ∧ tq = tq')), (28, 3, decide (be = be' ∧ bq = bq')), (3, 5, nx == nx'), (3, 6, tt == tt'), (3, 7, rt == rt')] _ (by kernel_rfl) (fun q hm => by
    have hi : oneT Try.prog 3 = true := by kernel_rfl
    have hl : oneT Try.prog 30 = true := by kernel_rfl
    simp only [List.mem_cons, List.not_mem_nil, or_false] at hm
    rcases hm with rfl | rfl | rfl | rfl | rfl | rfl
    · exact ⟨_, _, part_one hl rfl, part_one hl rfl, run_equalIn_int w 9998 30 .u64 .u64 s s' Try.underlying30⟩
    · exact ⟨_, _, part_agg (n := 2) (by kernel_rfl) (by kernel_rfl) rfl, part_agg (n := 2) (by kernel_rfl) (by kernel_rfl) rfl, equalIn_lb w 9997 te tq te' tq'⟩
    · exact ⟨_, _, part_agg (n := 2) (by kernel_rfl) (by kernel_rfl) rfl, part_agg (n := 2) (by kernel_rfl) (by kernel_rfl) rfl, equalIn_lb w 9997 be bq be' bq'⟩
    · exact ⟨_, _, part_one hi rfl, part_one hi rfl, run_equalIn_int w 9998 3 .i64 .i64 nx nx' Try.underlying3⟩
    · exact ⟨_, _, part_one hi rfl, part_one hi rfl, run_equalIn_int w 9998 3 .i64 .i64 tt tt' Try.underlying3⟩
    · exact ⟨_, _, part_one hi rfl, part_one hi rfl, run_equalIn_int w 9998 3 .i64 .i64 rt rt' Try.underlying3⟩)]
  simp only [List.all_cons, List.all_nil, Bool.and_true, bqI, ← Bool.decide_and]
theorem take_eq {α : Type} {es fs : List α} {j : Nat} {x y : α} (h : es.take j = fs.take j) (hx : es[j]? = some x) (hy : fs[j]? = some y) (he : x = y) : es.take (j + 1) = fs.take (j + 1) := by
  subst he
  obtain ⟨h1, e1⟩ := List.getElem?_eq_some_iff.1 hx
  obtain ⟨h2, e2⟩ := List.getElem?_eq_some_iff.1 hy
  rw [List.take_succ_eq_append_getElem h1, List.take_succ_eq_append_getElem h2, h, e1, e2]
theorem drop_at {α : Type} {l : List α} {j : Nat} {x : α} (hx : l[j]? = some x) : l.drop j = x :: l.drop (j + 1) := by
  obtain ⟨h, rfl⟩ := List.getElem?_eq_some_iff.1 hx
  exact List.drop_eq_getElem_cons h
theorem wr64' {x : Int} (h : -9223372036854775808 ≤ x ∧ x < 9223372036854775808) : IntKind.i64.wrap x = x := by rw [IntKind.wrap_i64]; omega
theorem eqI {a b : Int} (h : a = b) : cmpB .neq a b = false := by subst h; simp [cmpB]
theorem neqI {a b : Int} (h : ¬ a = b) : cmpB .neq a b = true := by simp [cmpB, h]
theorem ii_get {w : World} {A : Option Addr} {n : Nat} {ps : List Int} (h : (Kd.int .i64).C w A n ps) (j : Nat) (hj : j < ps.length) : ∃ ad x, A = some ad ∧ ps[j]? = some x ∧ w.cell? (ad.add (j * 1)) = some (.int .i64 x) := by
  obtain ⟨ad, e, hc⟩ := h.2.2 (by have := h.1; omega)
  obtain ⟨c, hs, hr, hcell⟩ := hc j _ (List.getElem?_eq_getElem hj)
  refine ⟨ad, ps[j], e, List.getElem?_eq_getElem hj, ?_⟩
  exact hcell 0 (.int .i64 ps[j]) (by rw [show c = [.int .i64 ps[j]] from hr]; rfl)
set_option maxRecDepth 10000 in
theorem lright_any (w : World) (a b : Int) : Calls Try.prog 54 #[.agg ([.int .u32 a, .int .u32 b] : List Value).toArray] w fun e w' => e = .returned (.bool (lbOk a b)) ∧ Below w.heap.size w w' := by
  have HS := St.empty w
  · skip
    refine c_enter Try.func54 rfl 11 rfl [.agg ([.int .u32 a, .int .u32 b] : List Value).toArray, undef, undef, undef, undef, undef, undef, undef, undef, undef, undef] rfl ?_
    refine wp_seq_k (fun K1 hK2 => ?_)
    refine c_region (fun ops4 hops3 => ?_)
    clear hops3
    refine St.wBox HS (cs := [.int .u32 a, .int .u32 b]) (.agg ([.int .u32 a, .int .u32 b] : List Value).toArray) rfl rfl ?_
    clear HS
    intro g5 w6 hg7 HS
    refine p_run _ (x_assign (.bool false) rfl rfl) rfl ?_
    refine wpList_nil ?_
    refine hK2 _ _ ?_
    refine wp_seq_k (fun K8 hK9 => ?_)
    refine c_region (fun ops11 hops10 => ?_)
    refine p_run _ (x_field (j := 0) _ _ rfl rfl Try.underlying28 rfl (by rfl) rfl) rfl ?_
    refine p_run _ (x_load (.int .u32 a) rfl rfl (bkCell (HS.get (.head _)) 0 _ rfl) (by rfl)) rfl ?_
    refine p_run _ (x_cmp (k := .u32) (m := a) (n := 1048576) .leq (decide (a ≤ 1048576)) rfl rfl rfl rfl rfl) rfl ?_
    refine p_run _ (x_move (.bool (decide (a ≤ 1048576))) rfl rfl) rfl ?_
    obtain ⟨bz12, hbz12⟩ : ∃ b_, b_ = (decide (a ≤ 1048576)) := ⟨_, rfl⟩
    rw [← hbz12]
    refine p_tail 4 (fun a_ w_ => ∃ (uz7 uz8 uz9 : Value) (bz13 : Bool), a_ = fr [.agg ([.int .u32 a, .int .u32 b] : List Value).toArray, .pointer (some ⟨g5, 0, none⟩), .bool false, .pointer (some ⟨g5, 0, none⟩), .int .u32 a, .bool bz12, .bool bz12, uz7, uz8, uz9, .bool bz13] ∧ bz13 = (bz12 && (decide (b ≤ 1048576))) ∧ St w (fun _ => False) w_ ([blk g5 [.int .u32 a, .int .u32 b] 28])) (fun T14 => ?_) ?_
    · cases bz12
      · skip
        refine p_off (by rw [hops10]; rfl) rfl ?_
        refine p_off (by rw [hops10]; rfl) rfl ?_
        refine p_off (by rw [hops10]; rfl) rfl ?_
        refine p_run _ (x_pick false (undef) (.bool false) (.bool false) rfl rfl rfl rfl rfl) rfl ?_
        exact T14 _ _ ⟨undef, undef, undef, false, rfl, rfl, HS⟩
      · skip
        refine p_on rfl (by rw [hops10]; rfl) ?_
        refine p_run _ (x_field (j := 1) _ _ rfl rfl Try.underlying28 rfl (by rfl) rfl) rfl ?_
        refine p_on rfl (by rw [hops10]; rfl) ?_
        refine p_run _ (x_load (.int .u32 b) rfl rfl (bkCell (HS.get (.head _)) 1 _ rfl) (by rfl)) rfl ?_
        refine p_on rfl (by rw [hops10]; rfl) ?_
        refine p_run _ (x_cmp (k := .u32) (m := b) (n := 1048576) .leq (decide (b ≤ 1048576)) rfl rfl rfl rfl rfl) rfl ?_
        refine p_run _ (x_pick true (.bool (decide (b ≤ 1048576))) (.bool false) (.bool (decide (b ≤ 1048576))) rfl rfl rfl rfl rfl) rfl ?_
        exact T14 _ _ ⟨(.pointer (some ⟨g5, 1, none⟩)), (.int .u32 b), (.bool (decide (b ≤ 1048576))), (decide (b ≤ 1048576)), rfl, rfl, HS⟩
    clear HS
    rintro _ w_ ⟨uz7, uz8, uz9, bz13, rfl, hbz13, HS⟩
    skip
    refine p_run _ (x_assign (.bool bz13) rfl rfl) rfl ?_
    clear hops10
    refine wpList_nil ?_
    refine hK9 _ _ ?_
    refine wp_ret ?_
    try simp only [Exit.inBlock, Exit.then]
    refine c_ret (.bool bz13) (r_tmp rfl rfl) ?_
    have e1 : lbOk a b = bz13 := by unfold lbOk; rw [hbz13, hbz12]
    rw [e1]
    exact ⟨rfl, HS.belowOf⟩
set_option maxRecDepth 10000 in
theorem nan_any (w : World) (x : Int) : Calls Try.prog 67 #[.int .u32 x] w fun e w' => e = .returned (.bool false) ∧ Below w.heap.size w w' := by
  have HS := St.empty w
  · skip
    refine c_enter Try.func67 rfl 6 rfl [.int .u32 x, undef, undef, undef, undef, undef] rfl ?_
    refine wp_seq_k (fun K1 hK2 => ?_)
    refine c_region (fun ops4 hops3 => ?_)
    clear hops3
    refine p_run _ (x_assign (.bool false) rfl rfl) rfl ?_
    refine wpList_nil ?_
    refine hK2 _ _ ?_
    refine wp_seq_k (fun K5 hK6 => ?_)
    refine c_region (fun ops8 hops7 => ?_)
    clear hops7
    refine p_run _ (x_move (.int .u32 x) rfl rfl) rfl ?_
    refine p_run _ (x_move (.int .u32 x) rfl rfl) rfl ?_
    refine p_run _ (x_cmp (k := .u32) (m := x) (n := x) .neq false rfl rfl rfl (by simp [cmpB]) rfl) rfl ?_
    refine p_run _ (x_assign (.bool false) rfl rfl) rfl ?_
    refine wpList_nil ?_
    refine fr_at (l' := [.int .u32 x, undef, .bool false, .int .u32 x, .int .u32 x, .bool false]) rfl ?_
    refine hK6 _ _ ?_
    refine wp_ret ?_
    try simp only [Exit.inBlock, Exit.then]
    refine c_ret (.bool false) (r_tmp rfl rfl) ?_
    exact ⟨rfl, HS.belowOf⟩
set_option maxRecDepth 10000 in
theorem ccmp_any (w : World) (x y : Int) : Calls Try.prog 64 #[.int .u32 x, .int .u32 y] w fun e w' => e = .returned (.int .i64 (cmp1 x y)) ∧ Below w.heap.size w w' := by
  have HS := St.empty w
  · skip
    refine c_enter Try.func64 rfl 20 rfl (.int .u32 x :: .int .u32 y :: U16k1 (undef :: undef :: [])) rfl ?_
    refine wp_seq_k (fun K1 hK2 => ?_)
    refine c_region (fun ops4 hops3 => ?_)
    clear hops3
    refine p_run _ (x_assign (.int .i64 0) rfl rfl) rfl ?_
    refine wpList_nil ?_
    refine hK2 _ _ ?_
    refine wp_seq_k (fun K5 hK6 => ?_)
    refine c_region (fun ops8 hops7 => ?_)
    clear hops7
    refine p_run _ (x_move (.int .u32 x) rfl rfl) rfl ?_
    refine w_call [.int .u32 x] Try.func67 (by kernel_rfl) (by rfl) rfl ?_
    refine (nan_any _ x).mono ?_
    rintro e w9 ⟨rfl, hb_⟩
    replace HS := HS.here hb_
    clear hb_
    refine ⟨_, rfl, ?_⟩
    refine p_run _ (x_assign (.bool false) rfl rfl) rfl ?_
    refine wpList_nil ?_
    refine fr_at (l' := (.int .u32 x :: .int .u32 y :: undef :: undef :: .int .i64 0 :: .bool false :: undef :: .int .u32 x :: .bool false :: U8k1 (undef :: undef :: undef :: []))) rfl ?_
    refine hK6 _ _ ?_
    refine wp_seq_k (fun K10 hK11 => ?_)
    refine c_region (fun ops13 hops12 => ?_)
    clear hops12
    refine p_run _ (x_move (.int .u32 y) rfl rfl) rfl ?_
    refine w_call [.int .u32 y] Try.func67 (by kernel_rfl) (by rfl) rfl ?_
    refine (nan_any _ y).mono ?_
    rintro e w14 ⟨rfl, hb_⟩
    replace HS := HS.here hb_
    clear hb_
    refine ⟨_, rfl, ?_⟩
    refine p_run _ (x_assign (.bool false) rfl rfl) rfl ?_
    refine wpList_nil ?_
    refine hK11 _ _ ?_
    refine wp_seq_k (fun K15 hK16 => ?_)
    refine wp_seq_k (fun K17 hK18 => ?_)
    refine c_region (fun ops20 hops19 => ?_)
    clear hops19
    refine p_run _ (x_move (.bool false) rfl rfl) rfl ?_
    refine wpList_nil ?_
    refine fr_at (l' := (.int .u32 x :: .int .u32 y :: undef :: undef :: .int .i64 0 :: .bool false :: .bool false :: .int .u32 x :: .bool false :: .int .u32 y :: .bool false :: .bool false :: U8k1 ([]))) rfl ?_
    refine hK18 _ _ ?_
    refine c_false rfl ?_
    refine wp_skip ?_
    refine hK16 _ _ ?_
    refine wp_seq_k (fun K21 hK22 => ?_)
    refine wp_seq_k (fun K23 hK24 => ?_)
    refine c_region (fun ops26 hops25 => ?_)
    clear hops25
    refine p_run _ (x_move (.bool false) rfl rfl) rfl ?_
    refine wpList_nil ?_
    refine hK24 _ _ ?_
    refine c_false rfl ?_
    refine wp_skip ?_
    refine hK22 _ _ ?_
    refine wp_seq_k (fun K27 hK28 => ?_)
    refine wp_seq_k (fun K29 hK30 => ?_)
    refine c_region (fun ops32 hops31 => ?_)
    clear hops31
    refine p_run _ (x_move (.int .u32 x) rfl rfl) rfl ?_
    refine p_run _ (x_move (.int .u32 y) rfl rfl) rfl ?_
    refine p_run _ (x_cmp (k := .u32) (m := x) (n := y) .lss (decide (x < y)) rfl rfl rfl rfl rfl) rfl ?_
    refine wpList_nil ?_
    obtain ⟨qz33, hqz33⟩ : ∃ q_ : V8, q_ = ⟨.bool false, .int .u32 y, .bool false, .bool false, undef, .bool false, .int .u32 x, .int .u32 y⟩ := ⟨_, rfl⟩
    refine fr_at (l' := (.int .u32 x :: .int .u32 y :: undef :: undef :: .int .i64 0 :: .bool false :: .bool false :: .int .u32 x :: V8.l qz33 (.bool (decide (x < y)) :: undef :: undef :: undef :: []))) (by subst hqz33; rfl) ?_
    refine hK30 _ _ ?_
    refine c_cond (t := decide (x < y)) rfl (fun hc34 => ?_) (fun hc34 => ?_)
    · refine wp_seq_k (fun K35 hK36 => ?_)
      refine c_region (fun ops38 hops37 => ?_)
      clear hops37
      refine p_run _ (x_assign (.int .i64 (-1)) rfl rfl) rfl ?_
      refine wpList_nil ?_
      refine hK36 _ _ ?_
      refine wp_ret ?_
      try simp only [Exit.inBlock, Exit.then]
      refine c_ret (.int .i64 (-1)) (r_tmp rfl rfl) ?_
      have e1 : cmp1 x y = -1 := by unfold cmp1; rw [if_pos (of_decide_eq_true hc34)]
      rw [e1]
      exact ⟨rfl, HS.belowOf⟩
    · refine wp_skip ?_
      refine hK28 _ _ ?_
      refine wp_seq_k (fun K39 hK40 => ?_)
      refine wp_seq_k (fun K41 hK42 => ?_)
      refine c_region (fun ops44 hops43 => ?_)
      clear hops43
      refine p_run _ (x_move (.int .u32 x) rfl rfl) rfl ?_
      refine p_run _ (x_move (.int .u32 y) rfl rfl) rfl ?_
      refine p_run _ (x_cmp (k := .u32) (m := x) (n := y) .gtr (decide (x > y)) rfl rfl rfl rfl rfl) rfl ?_
      refine wpList_nil ?_
      refine fr_at (l' := (.int .u32 x :: .int .u32 y :: undef :: undef :: .int .i64 0 :: .bool false :: .bool false :: .int .u32 x :: V8.l qz33 (.bool (decide (x < y)) :: .int .u32 x :: .int .u32 y :: .bool (decide (x > y)) :: []))) rfl ?_
      refine hK42 _ _ ?_
      refine c_cond (t := decide (x > y)) rfl (fun hc45 => ?_) (fun hc45 => ?_)
      · refine wp_seq_k (fun K46 hK47 => ?_)
        refine c_region (fun ops49 hops48 => ?_)
        clear hops48
        refine p_run _ (x_assign (.int .i64 1) rfl rfl) rfl ?_
        refine wpList_nil ?_
        refine hK47 _ _ ?_
        refine wp_ret ?_
        try simp only [Exit.inBlock, Exit.then]
        refine c_ret (.int .i64 1) (r_tmp rfl rfl) ?_
        have e1 : cmp1 x y = 1 := by unfold cmp1; rw [if_neg (of_decide_eq_false hc34), if_pos (of_decide_eq_true hc45)]
        rw [e1]
        exact ⟨rfl, HS.belowOf⟩
      · refine wp_skip ?_
        refine hK40 _ _ ?_
        refine wp_seq_k (fun K50 hK51 => ?_)
        refine c_region (fun ops53 hops52 => ?_)
        clear hops52
        refine p_run _ (x_assign (.int .i64 0) rfl rfl) rfl ?_
        refine wpList_nil ?_
        refine hK51 _ _ ?_
        refine wp_ret ?_
        try simp only [Exit.inBlock, Exit.then]
        refine c_ret (.int .i64 0) (r_tmp rfl rfl) ?_
        have e1 : cmp1 x y = 0 := by unfold cmp1; rw [if_neg (of_decide_eq_false hc34), if_neg (of_decide_eq_false hc45)]
        rw [e1]
        exact ⟨rfl, HS.belowOf⟩
set_option maxRecDepth 10000 in
set_option maxHeartbeats 1000000 in
theorem or_any (w : World) (A : Option Addr) (c : Nat) (l : List Int) (hr : (Kd.int .i64).C w A l.length l) (hl : l.length ≤ 1000) : Calls Try.prog 63 #[.slice A l.length c] w fun e w' => e = .returned (.int .i64 (orF l)) ∧ Below w.heap.size w w' := by
  have HS := St.empty w
  · skip
    refine c_enter Try.func63 rfl 18 rfl (.slice A l.length c :: U16k1 (undef :: [])) rfl ?_
    refine wp_seq_k (fun K1 hK2 => ?_)
    refine c_region (fun ops4 hops3 => ?_)
    clear hops3
    refine p_run _ (x_assign (.int .i64 0) rfl rfl) rfl ?_
    refine wpList_nil ?_
    refine hK2 _ _ ?_
    refine wp_seq_k (fun K5 hK6 => ?_)
    refine c_region (fun ops8 hops7 => ?_)
    clear hops7
    refine p_run _ (x_assign (.int .i64 0) rfl rfl) rfl ?_
    refine wpList_nil ?_
    refine hK6 _ _ ?_
    refine wp_seq_k (fun K9 hK10 => ?_)
    refine wp_seq_k (fun K11 hK12 => ?_)
    refine c_region (fun ops14 hops13 => ?_)
    clear hops13
    refine p_run _ (x_move (.slice A l.length c) rfl rfl) rfl ?_
    refine p_run _ (x_len rfl rfl Try.underlying52) rfl ?_
    refine p_run _ (x_move (.int .i64 0) rfl rfl) rfl ?_
    refine wpList_nil ?_
    refine fr_at (l' := (.slice A l.length c :: undef :: .int .i64 0 :: .int .i64 0 :: undef :: undef :: .slice A l.length c :: .int .i64 (l.length : Int) :: .int .i64 0 :: U8k1 (undef :: []))) rfl ?_
    refine hK12 _ _ ?_
    refine wp_block ?_
    refine c_loop (ι := Nat) (fun i_ a_ w_ => match i_ with | j => ∃ (u2 : Value) (u5 : Value) (u9 : Value) (u10 : Value) (u11 : Value) (u12 : Value) (u13 : Value) (u14 : Value) (u15 : Value) (u16 : Value), a_ = fr (.slice A l.length c :: undef :: u2 :: .int .i64 0 :: undef :: u5 :: .slice A l.length c :: .int .i64 (l.length : Int) :: .int .i64 (j : Int) :: u9 :: u10 :: u11 :: u12 :: u13 :: u14 :: u15 :: u16 :: undef :: []) ∧ St w (fun _ => False) w_ ([]) ∧ (j ≤ l.length ∧ orF l = orF (l.drop j))) (fun i_ => match i_ with | j => l.length - j) 0 ?_ ?_
    · exact ⟨_, _, _, _, _, _, _, _, _, _, rfl, HS, ⟨Nat.zero_le _, rfl⟩⟩
    · clear HS
      rintro j a_ w17 ⟨u2, u5, u9, u10, u11, u12, u13, u14, u15, u16, rfl, HS, hI⟩ J15 hJ16
      obtain ⟨hjl, hI⟩ := hI
      refine wp_seq_k (fun K18 hK19 => ?_)
      refine c_region (fun ops21 hops20 => ?_)
      clear hops20
      refine p_run _ (x_cmp (k := .i64) (m := (j : Int)) (n := (l.length : Int)) .lss (decide ((j : Int) < (l.length : Int))) rfl rfl rfl rfl rfl) rfl ?_
      refine wpList_nil ?_
      refine hK19 _ _ ?_
      refine wp_seq_k (fun K22 hK23 => ?_)
      refine c_cond (t := decide ((j : Int) < (l.length : Int))) rfl (fun hc24 => ?_) (fun hc24 => ?_)
      · have hlt : j < l.length := by have := of_decide_eq_true hc24; omega
        obtain ⟨ad, x, rfl, hx, hcell⟩ := ii_get (Kd.C_below hr HS.belowOf) j hlt
        rw [drop_at hx] at hI
        refine wp_skip ?_
        refine hK23 _ _ ?_
        refine wp_seq_k (fun K25 hK26 => ?_)
        refine wp_block ?_
        refine wp_seq_k (fun K27 hK28 => ?_)
        refine c_region (fun ops30 hops29 => ?_)
        clear hops29
        refine p_run _ (x_index (A := ad) (j := j * 1) (sz := 1) rfl rfl rfl Try.underlying52 (by kernel_rfl) (by omega) rfl) rfl ?_
        refine p_run _ (x_load (.int .i64 x) rfl rfl hcell (by rfl)) rfl ?_
        refine p_run _ (x_assign (.int .i64 x) rfl rfl) rfl ?_
        refine wpList_nil ?_
        refine fr_at (l' := (.slice (some ad) l.length c :: undef :: u2 :: .int .i64 0 :: undef :: .int .i64 x :: .slice (some ad) l.length c :: .int .i64 (l.length : Int) :: .int .i64 (j : Int) :: .bool (decide ((j : Int) < (l.length : Int))) :: .pointer (some ((ad).add (j * 1))) :: .int .i64 x :: u12 :: u13 :: u14 :: u15 :: u16 :: undef :: [])) rfl ?_
        refine hK28 _ _ ?_
        refine wp_seq_k (fun K31 hK32 => ?_)
        refine c_region (fun ops34 hops33 => ?_)
        clear hops33
        refine p_run _ (x_move (.int .i64 x) rfl rfl) rfl ?_
        refine p_run _ (x_move (.int .i64 0) rfl rfl) rfl ?_
        refine p_run _ (x_cmp (k := .i64) (m := x) (n := 0) .neq (x != 0) rfl rfl rfl rfl rfl) rfl ?_
        refine wpList_nil ?_
        refine hK32 _ _ ?_
        refine c_cond (t := (x != 0)) rfl (fun hc35 => ?_) (fun hc35 => ?_)
        · have hx0 : ¬ x = 0 := by have := hc35; simpa using this
          refine wp_seq_k (fun K36 hK37 => ?_)
          refine c_region (fun ops39 hops38 => ?_)
          clear hops38
          refine p_run _ (x_move (.int .i64 x) rfl rfl) rfl ?_
          refine p_run _ (x_assign (.int .i64 x) rfl rfl) rfl ?_
          refine wpList_nil ?_
          refine fr_at (l' := (.slice (some ad) l.length c :: undef :: .int .i64 x :: .int .i64 0 :: undef :: .int .i64 x :: .slice (some ad) l.length c :: .int .i64 (l.length : Int) :: .int .i64 (j : Int) :: .bool (decide ((j : Int) < (l.length : Int))) :: .pointer (some ((ad).add (j * 1))) :: .int .i64 x :: .int .i64 x :: .int .i64 0 :: .bool (x != 0) :: .int .i64 x :: u16 :: undef :: [])) rfl ?_
          refine hK37 _ _ ?_
          refine wp_ret ?_
          try simp only [Exit.inBlock, Exit.then]
          refine c_ret (.int .i64 x) (r_tmp rfl rfl) ?_
          have e1 : orF l = x := by rw [hI]; show (if x = 0 then _ else _) = _; rw [if_neg hx0]
          rw [e1]
          exact ⟨rfl, HS.belowOf⟩
        · have hx0 : x = 0 := by have := hc35; simpa using this
          refine wp_skip ?_
          refine hK26 _ _ ?_
          refine c_region (fun ops41 hops40 => ?_)
          clear hops40
          refine p_run _ (x_arith (k := .i64) (m := (j : Int)) (n := 1) .add (((j + 1 : Nat) : Int)) rfl rfl rfl (show IntKind.i64.wrap ((j : Int) + 1) = ((j + 1 : Nat) : Int) from ((wr64' (by omega)).trans (by omega))) rfl) rfl ?_
          refine p_run _ (x_move (.int .i64 ((j + 1 : Nat) : Int)) rfl rfl) rfl ?_
          refine wpList_nil ?_
          refine fr_at (l' := (.slice (some ad) l.length c :: undef :: u2 :: .int .i64 0 :: undef :: .int .i64 x :: .slice (some ad) l.length c :: .int .i64 (l.length : Int) :: .int .i64 ((j + 1 : Nat) : Int) :: .bool (decide ((j : Int) < (l.length : Int))) :: .pointer (some ((ad).add (j * 1))) :: .int .i64 x :: .int .i64 x :: .int .i64 0 :: .bool (x != 0) :: u15 :: .int .i64 ((j + 1 : Nat) : Int) :: undef :: [])) rfl ?_
          refine hJ16 (j + 1) _ _ ?_ ?_
          · show l.length - (j + 1) < l.length - j; omega
          · exact ⟨_, _, _, _, _, _, _, _, _, _, rfl, HS, ⟨by omega, by rw [hI]; show (if x = 0 then _ else _) = _; rw [if_pos hx0]⟩⟩
      · have hlt : j = l.length := by have := of_decide_eq_false hc24; omega
        subst hlt
        refine wp_exit ?_
        refine hK10 _ _ ?_
        refine wp_seq_k (fun K42 hK43 => ?_)
        refine c_region (fun ops45 hops44 => ?_)
        clear hops44
        refine p_run _ (x_move (.int .i64 0) rfl rfl) rfl ?_
        refine p_run _ (x_assign (.int .i64 0) rfl rfl) rfl ?_
        refine wpList_nil ?_
        refine hK43 _ _ ?_
        refine wp_ret ?_
        try simp only [Exit.inBlock, Exit.then]
        refine c_ret (.int .i64 0) (r_tmp rfl rfl) ?_
        have e1 : orF l = 0 := by rw [hI, List.drop_length]; rfl
        rw [e1]
        exact ⟨rfl, HS.belowOf⟩
set_option maxRecDepth 10000 in
set_option maxHeartbeats 1000000 in
theorem lcmp_any (w : World) (a b c d : Int) : Calls Try.prog 55 #[.agg ([.int .u32 a, .int .u32 b] : List Value).toArray, .agg ([.int .u32 c, .int .u32 d] : List Value).toArray] w fun e w' => e = .returned (.int .i64 (cmpL a b c d)) ∧ Below w.heap.size w w' := by
  have HS := St.empty w
  · skip
    refine c_enter Try.func55 rfl 17 rfl (.agg ([.int .u32 a, .int .u32 b] : List Value).toArray :: .agg ([.int .u32 c, .int .u32 d] : List Value).toArray :: U8k1 (U4k1 (undef :: undef :: undef :: []))) rfl ?_
    refine wp_seq_k (fun K1 hK2 => ?_)
    refine c_region (fun ops4 hops3 => ?_)
    clear hops3
    refine St.wBox HS (cs := [.int .u32 a, .int .u32 b]) (.agg ([.int .u32 a, .int .u32 b] : List Value).toArray) rfl rfl ?_
    clear HS
    intro g5 w6 hg7 HS
    refine St.wBox HS (cs := [.int .u32 c, .int .u32 d]) (.agg ([.int .u32 c, .int .u32 d] : List Value).toArray) rfl rfl ?_
    clear HS
    intro g8 w9 hg10 HS
    refine p_run _ (x_assign (.int .i64 0) rfl rfl) rfl ?_
    refine wpList_nil ?_
    refine hK2 _ _ ?_
    refine wp_seq_k (fun K11 hK12 => ?_)
    refine free_frame (n := 13) (T := _) [0, 1, 0, 4, 15, 0, 32, 0, 128, 511, 1023, 2047, 4095] [(0, 5), (1, 6), (2, 7), (3, 8), (4, 9), (5, 10), (6, 11), (7, 12), (8, 13), (9, 14), (10, 15), (11, 16), (12, 4)] (fun bq_ vq_ w_ => qv ((fun i_ => match i_ with | 0 => some (.pointer (some ⟨g5, 0, none⟩)) | 1 => some (.int .u32 a) | 2 => some (.pointer (some ⟨g8, 0, none⟩)) | 3 => some (.int .u32 c) | 5 => some (.pointer (some ⟨g5, 1, none⟩)) | 6 => some (.int .u32 b) | 7 => some (.pointer (some ⟨g8, 1, none⟩)) | 8 => some (.int .u32 d) | 12 => some (.int .i64 (cmpL a b c d)) | _ => none) : Nat → Option Value) bq_ vq_ ∧ cond (bq_ 11) (∃ (g17 : Nat), vq_ 4 = .int .i64 (cmp1 a c) ∧ vq_ 9 = .int .i64 (cmp1 b d) ∧ vq_ 10 = .slice (some ⟨g17, 0, none⟩) 2 2 ∧ vq_ 11 = .int .i64 (cmpL a b c d) ∧ St w (fun _ => False) w_ ([blk g17 [.int .i64 (cmp1 a c), .int .i64 (cmp1 b d)] 3, blk g8 [.int .u32 c, .int .u32 d] 28, blk g5 [.int .u32 a, .int .u32 b] 28])) (cond (bq_ 10) (∃ (g17 : Nat), vq_ 4 = .int .i64 (cmp1 a c) ∧ vq_ 9 = .int .i64 (cmp1 b d) ∧ vq_ 10 = .slice (some ⟨g17, 0, none⟩) 2 2 ∧ St w (fun _ => False) w_ ([blk g17 [.int .i64 (cmp1 a c), .int .i64 (cmp1 b d)] 3, blk g8 [.int .u32 c, .int .u32 d] 28, blk g5 [.int .u32 a, .int .u32 b] 28])) (cond (bq_ 9) (vq_ 4 = .int .i64 (cmp1 a c) ∧ vq_ 9 = .int .i64 (cmp1 b d) ∧ St w (fun _ => False) w_ ([blk g8 [.int .u32 c, .int .u32 d] 28, blk g5 [.int .u32 a, .int .u32 b] 28])) (cond (bq_ 4) (vq_ 4 = .int .i64 (cmp1 a c) ∧ St w (fun _ => False) w_ ([blk g8 [.int .u32 c, .int .u32 d] 28, blk g5 [.int .u32 a, .int .u32 b] 28])) ((St w (fun _ => False) w_ ([blk g8 [.int .u32 c, .int .u32 d] 28, blk g5 [.int .u32 a, .int .u32 b] 28]))))))) (by kernel_rfl) rfl rfl (by kernel_rfl) (by kernel_rfl) rfl (by kernel_rfl) (by kernel_rfl) ⟨qv_none, HS.draw⟩ ?_ ?_
    · clear HS
      intro i_ hi_ bq_ vq_ a_ w_ hG hb_ hon hoff hfr hel hval
      obtain ⟨hV, hE⟩ := hG
      have hi_ := List.mem_range.1 hi_
      obtain ⟨l_, rfl⟩ := hfr
      have hv_ := fun (j t : Nat) (v : Value) (h1 : (j, t) ∈ [(0, 5), (1, 6), (2, 7), (3, 8), (4, 9), (5, 10), (6, 11), (7, 12), (8, 13), (9, 14), (10, 15), (11, 16), (12, 4)]) h2 h3 => (hval (j, t) h1 h3).trans (congrArg some (hV j v h2 h3))
      have hcs : i_ = 0 ∨ i_ = 1 ∨ i_ = 2 ∨ i_ = 3 ∨ i_ = 4 ∨ i_ = 5 ∨ i_ = 6 ∨ i_ = 7 ∨ i_ = 8 ∨ i_ = 9 ∨ i_ = 10 ∨ i_ = 11 ∨ i_ = 12 := by omega
      rcases hcs with rfl | rfl | rfl | rfl | rfl | rfl | rfl | rfl | rfl | rfl | rfl | rfl | rfl
      · have e2 : evl l_ (.tmp 2) = .pointer (some ⟨g5, 0, none⟩) := evl_of ((hel 2 (by decide)).trans rfl)
        exact ⟨_, rfl, fun K_ hK_ => q_op _ (x_field (j := 0) _ _ rfl e2 Try.underlying28 rfl (by rfl) rfl) (hK_ _ _ ⟨qv_up hV (fun _ h => Option.some.inj h), hE⟩)⟩
      · have hE0 := hE
        rw [show bq_ 11 = false from (hoff 11 (by decide))] at hE0
        rw [show bq_ 10 = false from (hoff 10 (by decide))] at hE0
        rw [show bq_ 9 = false from (hoff 9 (by decide))] at hE0
        rw [show bq_ 4 = false from (hoff 4 (by decide))] at hE0
        simp only [cond_true, cond_false] at hE0
        have HS := hE0
        have e5 : evl l_ (.tmp 5) = .pointer (some ⟨g5, 0, none⟩) := evl_of (hv_ 0 5 _ (by decide) rfl (hon 0 (by decide)))
        exact ⟨_, rfl, fun K_ hK_ => q_op _ (x_load (.int .u32 a) rfl e5 (bkCell (HS.get (.tail _ (.head _))) 0 _ rfl) (by rfl)) (hK_ _ _ ⟨qv_up hV (fun _ h => Option.some.inj h), hE⟩)⟩
      · have e3 : evl l_ (.tmp 3) = .pointer (some ⟨g8, 0, none⟩) := evl_of ((hel 3 (by decide)).trans rfl)
        exact ⟨_, rfl, fun K_ hK_ => q_op _ (x_field (j := 0) _ _ rfl e3 Try.underlying28 rfl (by rfl) rfl) (hK_ _ _ ⟨qv_up hV (fun _ h => Option.some.inj h), hE⟩)⟩
      · have hE0 := hE
        rw [show bq_ 11 = false from (hoff 11 (by decide))] at hE0
        rw [show bq_ 10 = false from (hoff 10 (by decide))] at hE0
        rw [show bq_ 9 = false from (hoff 9 (by decide))] at hE0
        rw [show bq_ 4 = false from (hoff 4 (by decide))] at hE0
        simp only [cond_true, cond_false] at hE0
        have HS := hE0
        have e7 : evl l_ (.tmp 7) = .pointer (some ⟨g8, 0, none⟩) := evl_of (hv_ 2 7 _ (by decide) rfl (hon 2 (by decide)))
        exact ⟨_, rfl, fun K_ hK_ => q_op _ (x_load (.int .u32 c) rfl e7 (bkCell (HS.get (.head _)) 0 _ rfl) (by rfl)) (hK_ _ _ ⟨qv_up hV (fun _ h => Option.some.inj h), hE⟩)⟩
      · have h6 : (fr l_).tmps[6]? = some (.int .u32 a) := hv_ 1 6 _ (by decide) rfl (hon 1 (by decide))
        have h8 : (fr l_).tmps[8]? = some (.int .u32 c) := hv_ 3 8 _ (by decide) rfl (hon 3 (by decide))
        have hE0 := hE
        rw [show bq_ 11 = false from (hoff 11 (by decide))] at hE0
        rw [show bq_ 10 = false from (hoff 10 (by decide))] at hE0
        rw [show bq_ 9 = false from (hoff 9 (by decide))] at hE0
        rw [show bq_ 4 = false from hb_] at hE0
        simp only [cond_true, cond_false] at hE0
        have HS := hE0
        have e6 : evl l_ (.tmp 6) = .int .u32 a := evl_of h6
        have e8 : evl l_ (.tmp 8) = .int .u32 c := evl_of h8
        refine ⟨_, rfl, fun K_ hK_ => wp_of_list rfl ?_⟩
        intro ops_
        refine w_call [.int .u32 a, .int .u32 c] Try.func64 (by kernel_rfl) (by rfl) (by simp only [List.map_cons, List.map_nil, e6, e8] <;> rfl) ?_
        refine (ccmp_any _ a c).mono ?_
        rintro e w900401 ⟨rfl, hb_⟩
        replace HS := HS.here hb_
        clear hb_
        refine ⟨_, rfl, ?_⟩
        refine wpList_nil ?_
        refine norm_put (hK_ (.int .i64 (cmp1 a c)) _ ⟨qv_up hV (by intro _ h; cases h), ?_⟩)
        show cond (bq_ 11) _ _
        rw [show bq_ 11 = false from hoff 11 (by decide), cond_false]
        show cond (bq_ 10) _ _
        rw [show bq_ 10 = false from hoff 10 (by decide), cond_false]
        show cond (bq_ 9) _ _
        rw [show bq_ 9 = false from hoff 9 (by decide), cond_false]
        show cond true _ _
        rw [cond_true]
        exact ⟨rfl, ((HS.front 1 rfl).front 1 rfl)⟩
      · have e2 : evl l_ (.tmp 2) = .pointer (some ⟨g5, 0, none⟩) := evl_of ((hel 2 (by decide)).trans rfl)
        exact ⟨_, rfl, fun K_ hK_ => q_op _ (x_field (j := 1) _ _ rfl e2 Try.underlying28 rfl (by rfl) rfl) (hK_ _ _ ⟨qv_up hV (fun _ h => Option.some.inj h), hE⟩)⟩
      · rcases hq4 : bq_ 4 with _ | _
        · skip
          have hE0 := hE
          rw [show bq_ 11 = false from (hoff 11 (by decide))] at hE0
          rw [show bq_ 10 = false from (hoff 10 (by decide))] at hE0
          rw [show bq_ 9 = false from (hoff 9 (by decide))] at hE0
          rw [show bq_ 4 = false from hq4] at hE0
          simp only [cond_true, cond_false] at hE0
          have HS := hE0
          have e10 : evl l_ (.tmp 10) = .pointer (some ⟨g5, 1, none⟩) := evl_of (hv_ 5 10 _ (by decide) rfl (hon 5 (by decide)))
          exact ⟨_, rfl, fun K_ hK_ => q_op _ (x_load (.int .u32 b) rfl e10 (bkCell (HS.get (.tail _ (.head _))) 1 _ rfl) (by rfl)) (hK_ _ _ ⟨qv_up hV (fun _ h => Option.some.inj h), hE⟩)⟩
        · have hE0 := hE
          rw [show bq_ 11 = false from (hoff 11 (by decide))] at hE0
          rw [show bq_ 10 = false from (hoff 10 (by decide))] at hE0
          rw [show bq_ 9 = false from (hoff 9 (by decide))] at hE0
          rw [show bq_ 4 = true from hq4] at hE0
          simp only [cond_true, cond_false] at hE0
          obtain ⟨hv4, HS⟩ := hE0
          have e10 : evl l_ (.tmp 10) = .pointer (some ⟨g5, 1, none⟩) := evl_of (hv_ 5 10 _ (by decide) rfl (hon 5 (by decide)))
          exact ⟨_, rfl, fun K_ hK_ => q_op _ (x_load (.int .u32 b) rfl e10 (bkCell (HS.get (.tail _ (.head _))) 1 _ rfl) (by rfl)) (hK_ _ _ ⟨qv_up hV (fun _ h => Option.some.inj h), hE⟩)⟩
      · have e3 : evl l_ (.tmp 3) = .pointer (some ⟨g8, 0, none⟩) := evl_of ((hel 3 (by decide)).trans rfl)
        exact ⟨_, rfl, fun K_ hK_ => q_op _ (x_field (j := 1) _ _ rfl e3 Try.underlying28 rfl (by rfl) rfl) (hK_ _ _ ⟨qv_up hV (fun _ h => Option.some.inj h), hE⟩)⟩
      · rcases hq4 : bq_ 4 with _ | _
        · skip
          have hE0 := hE
          rw [show bq_ 11 = false from (hoff 11 (by decide))] at hE0
          rw [show bq_ 10 = false from (hoff 10 (by decide))] at hE0
          rw [show bq_ 9 = false from (hoff 9 (by decide))] at hE0
          rw [show bq_ 4 = false from hq4] at hE0
          simp only [cond_true, cond_false] at hE0
          have HS := hE0
          have e12 : evl l_ (.tmp 12) = .pointer (some ⟨g8, 1, none⟩) := evl_of (hv_ 7 12 _ (by decide) rfl (hon 7 (by decide)))
          exact ⟨_, rfl, fun K_ hK_ => q_op _ (x_load (.int .u32 d) rfl e12 (bkCell (HS.get (.head _)) 1 _ rfl) (by rfl)) (hK_ _ _ ⟨qv_up hV (fun _ h => Option.some.inj h), hE⟩)⟩
        · have hE0 := hE
          rw [show bq_ 11 = false from (hoff 11 (by decide))] at hE0
          rw [show bq_ 10 = false from (hoff 10 (by decide))] at hE0
          rw [show bq_ 9 = false from (hoff 9 (by decide))] at hE0
          rw [show bq_ 4 = true from hq4] at hE0
          simp only [cond_true, cond_false] at hE0
          obtain ⟨hv4, HS⟩ := hE0
          have e12 : evl l_ (.tmp 12) = .pointer (some ⟨g8, 1, none⟩) := evl_of (hv_ 7 12 _ (by decide) rfl (hon 7 (by decide)))
          exact ⟨_, rfl, fun K_ hK_ => q_op _ (x_load (.int .u32 d) rfl e12 (bkCell (HS.get (.head _)) 1 _ rfl) (by rfl)) (hK_ _ _ ⟨qv_up hV (fun _ h => Option.some.inj h), hE⟩)⟩
      · have h11 : (fr l_).tmps[11]? = some (.int .u32 b) := hv_ 6 11 _ (by decide) rfl (hon 6 (by decide))
        have h13 : (fr l_).tmps[13]? = some (.int .u32 d) := hv_ 8 13 _ (by decide) rfl (hon 8 (by decide))
        have hE0 := hE
        rw [show bq_ 11 = false from (hoff 11 (by decide))] at hE0
        rw [show bq_ 10 = false from (hoff 10 (by decide))] at hE0
        rw [show bq_ 9 = false from hb_] at hE0
        rw [show bq_ 4 = true from (hon 4 (by decide))] at hE0
        simp only [cond_true, cond_false] at hE0
        obtain ⟨hv4, HS⟩ := hE0
        have e11 : evl l_ (.tmp 11) = .int .u32 b := evl_of h11
        have e13 : evl l_ (.tmp 13) = .int .u32 d := evl_of h13
        refine ⟨_, rfl, fun K_ hK_ => wp_of_list rfl ?_⟩
        intro ops_
        refine w_call [.int .u32 b, .int .u32 d] Try.func64 (by kernel_rfl) (by rfl) (by simp only [List.map_cons, List.map_nil, e11, e13] <;> rfl) ?_
        refine (ccmp_any _ b d).mono ?_
        rintro e w900901 ⟨rfl, hb_⟩
        replace HS := HS.here hb_
        clear hb_
        refine ⟨_, rfl, ?_⟩
        refine wpList_nil ?_
        refine norm_put (hK_ (.int .i64 (cmp1 b d)) _ ⟨qv_up hV (by intro _ h; cases h), ?_⟩)
        show cond (bq_ 11) _ _
        rw [show bq_ 11 = false from hoff 11 (by decide), cond_false]
        show cond (bq_ 10) _ _
        rw [show bq_ 10 = false from hoff 10 (by decide), cond_false]
        show cond true _ _
        rw [cond_true]
        exact ⟨hv4, rfl, ((HS.front 1 rfl).front 1 rfl)⟩
      · have h9 := hval (4, 9) (by decide) (hon 4 (by decide))
        have h14 := hval (9, 14) (by decide) (hon 9 (by decide))
        have hE0 := hE
        rw [show bq_ 11 = false from (hoff 11 (by decide))] at hE0
        rw [show bq_ 10 = false from hb_] at hE0
        rw [show bq_ 9 = true from (hon 9 (by decide))] at hE0
        simp only [cond_true, cond_false] at hE0
        obtain ⟨hv4, hv9, HS⟩ := hE0
        rw [hv4] at h9
        rw [hv9] at h14
        have e9 : evl l_ (.tmp 9) = .int .i64 (cmp1 a c) := evl_of h9
        have e14 : evl l_ (.tmp 14) = .int .i64 (cmp1 b d) := evl_of h14
        refine ⟨_, rfl, fun K_ hK_ => wp_of_list rfl ?_⟩
        intro ops_
        refine St.wLit HS (cs := [.int .i64 (cmp1 a c), .int .i64 (cmp1 b d)]) 1 (.int .i64 0) Try.underlying52 (by kernel_rfl) (by decide) (by show Instr.fill _ _ (Array.map (fun x : Nat × Operand => (x.1, evl l_ x.2)) #[(0, Operand.tmp 9), (1, Operand.tmp 14)]).toList = _; rw [show (Array.map (fun x : Nat × Operand => (x.1, evl l_ x.2)) #[(0, Operand.tmp 9), (1, Operand.tmp 14)]).toList = [(0, .int .i64 (cmp1 a c)), (1, .int .i64 (cmp1 b d))] from by simp [e9, e14]]; kernel_rfl) ?_
        clear HS
        intro g901001 w901002 hg901003 HS
        refine wpList_nil ?_
        refine norm_put (hK_ (.slice (some ⟨g901001, 0, none⟩) 2 2) _ ⟨qv_up hV (by intro _ h; cases h), ?_⟩)
        show cond (bq_ 11) _ _
        rw [show bq_ 11 = false from hoff 11 (by decide), cond_false]
        show cond true _ _
        rw [cond_true]
        exact ⟨g901001, hv4, hv9, rfl, (((HS.front 2 rfl).front 2 rfl).front 2 rfl)⟩
      · have h15 := hval (10, 15) (by decide) (hon 10 (by decide))
        have hE0 := hE
        rw [show bq_ 11 = false from hb_] at hE0
        rw [show bq_ 10 = true from (hon 10 (by decide))] at hE0
        simp only [cond_true, cond_false] at hE0
        obtain ⟨g17, hv4, hv9, hv10, HS⟩ := hE0
        rw [hv10] at h15
        have e15 : evl l_ (.tmp 15) = .slice (some ⟨g17, 0, none⟩) 2 2 := evl_of h15
        refine ⟨_, rfl, fun K_ hK_ => wp_of_list rfl ?_⟩
        intro ops_
        refine w_call [.slice (some ⟨g17, 0, none⟩) 2 2] Try.func63 (by kernel_rfl) (by rfl) (by simp only [List.map_cons, List.map_nil, e15] <;> rfl) ?_
        refine (or_any _ _ 2 [cmp1 a c, cmp1 b d] (ints_reads (HS.get (.head _)) rfl (by simp)) (Nat.le_of_ble_eq_true rfl)).mono ?_
        rintro e w901101 ⟨rfl, hb_⟩
        replace HS := HS.here hb_
        clear hb_
        refine ⟨_, rfl, ?_⟩
        refine wpList_nil ?_
        refine norm_put (hK_ (.int .i64 (cmpL a b c d)) _ ⟨qv_up hV (by intro _ h; cases h), ?_⟩)
        show cond true _ _
        rw [cond_true]
        exact ⟨g17, hv4, hv9, hv10, rfl, (((HS.front 2 rfl).front 2 rfl).front 2 rfl)⟩
      · have h16 := hval (11, 16) (by decide) (hon 11 (by decide))
        have hE0 := hE
        rw [show bq_ 11 = true from (hon 11 (by decide))] at hE0
        simp only [cond_true, cond_false] at hE0
        obtain ⟨g17, hv4, hv9, hv10, hv11, HS⟩ := hE0
        rw [hv11] at h16
        have e16 : evl l_ (.tmp 16) = .int .i64 (cmpL a b c d) := evl_of h16
        exact ⟨_, rfl, fun K_ hK_ => q_op _ (x_assign (.int .i64 (cmpL a b c d)) rfl e16) (hK_ _ _ ⟨qv_up hV (fun _ h => Option.some.inj h), hE⟩)⟩
    intro bq_ vq_ w_ hall hG
    obtain ⟨hV, hE⟩ := hG
    clear HS
    rw [show bq_ 11 = true from hall 11 (by decide)] at hE
    simp only [cond_true] at hE
    obtain ⟨g17, hv4, hv9, hv10, hv11, HS⟩ := hE
    have hv0 := hV 0 _ rfl (hall 0 (by decide))
    have hv1 := hV 1 _ rfl (hall 1 (by decide))
    have hv2 := hV 2 _ rfl (hall 2 (by decide))
    have hv3 := hV 3 _ rfl (hall 3 (by decide))
    have hv5 := hV 5 _ rfl (hall 5 (by decide))
    have hv6 := hV 6 _ rfl (hall 6 (by decide))
    have hv7 := hV 7 _ rfl (hall 7 (by decide))
    have hv8 := hV 8 _ rfl (hall 8 (by decide))
    have hv12 := hV 12 _ rfl (hall 12 (by decide))
    clear hV hall
    rw [putSel_fr]
    simp only [tells, List.map_cons, List.map_nil, setAll, List.set_cons_succ, List.set_cons_zero, hv0, hv1, hv2, hv3, hv4, hv5, hv6, hv7, hv8, hv9, hv10, hv11, hv12]
    clear hv0 hv1 hv2 hv3 hv4 hv5 hv6 hv7 hv8 hv9 hv10 hv11 hv12
    generalize w_ = w901201 at HS ⊢
    refine fr_at (l' := (.agg ([.int .u32 a, .int .u32 b] : List Value).toArray :: .agg ([.int .u32 c, .int .u32 d] : List Value).toArray :: .pointer (some ⟨g5, 0, none⟩) :: .pointer (some ⟨g8, 0, none⟩) :: .int .i64 (cmpL a b c d) :: .pointer (some ⟨g5, 0, none⟩) :: .int .u32 a :: .pointer (some ⟨g8, 0, none⟩) :: .int .u32 c :: .int .i64 (cmp1 a c) :: .pointer (some ⟨g5, 1, none⟩) :: .int .u32 b :: .pointer (some ⟨g8, 1, none⟩) :: .int .u32 d :: .int .i64 (cmp1 b d) :: .slice (some ⟨g17, 0, none⟩) 2 2 :: .int .i64 (cmpL a b c d) :: [])) rfl ?_
    refine hK12 _ _ ?_
    refine wp_ret ?_
    try simp only [Exit.inBlock, Exit.then]
    refine c_ret (.int .i64 (cmpL a b c d)) (r_tmp rfl rfl) ?_
    exact ⟨rfl, HS.belowOf⟩
set_option maxRecDepth 10000 in
theorem root_any (w : World) (x : Int) : Calls Try.prog 33 #[.int .i64 x] w fun e w' => e = .returned (.bool (rtOk x)) ∧ Below w.heap.size w w' := by
  have HS := St.empty w
  · skip
    refine c_enter Try.func33 rfl 9 rfl [.int .i64 x, undef, undef, undef, undef, undef, undef, undef, undef] rfl ?_
    refine wp_seq_k (fun K1 hK2 => ?_)
    refine c_region (fun ops4 hops3 => ?_)
    clear hops3
    refine p_run _ (x_assign (.bool false) rfl rfl) rfl ?_
    refine wpList_nil ?_
    refine hK2 _ _ ?_
    refine wp_seq_k (fun K5 hK6 => ?_)
    refine c_region (fun ops8 hops7 => ?_)
    refine p_run _ (x_move (.int .i64 x) rfl rfl) rfl ?_
    refine p_run _ (x_cmp (k := .i64) (m := x) (n := -1) .geq (decide (x ≥ (-1))) rfl rfl rfl rfl rfl) rfl ?_
    refine p_run _ (x_move (.bool (decide (x ≥ (-1)))) rfl rfl) rfl ?_
    obtain ⟨bz9, hbz9⟩ : ∃ b_, b_ = (decide (x ≥ (-1))) := ⟨_, rfl⟩
    rw [← hbz9]
    refine p_tail 3 (fun a_ w_ => ∃ (uz6 uz7 : Value) (bz10 : Bool), a_ = fr [.int .i64 x, undef, .bool false, .int .i64 x, .bool bz9, .bool bz9, uz6, uz7, .bool bz10] ∧ bz10 = (bz9 && (decide (x < 240))) ∧ St w (fun _ => False) w_ ([])) (fun T11 => ?_) ?_
    · cases bz9
      · skip
        refine p_off (by rw [hops7]; rfl) rfl ?_
        refine p_off (by rw [hops7]; rfl) rfl ?_
        refine p_run _ (x_pick false (undef) (.bool false) (.bool false) rfl rfl rfl rfl rfl) rfl ?_
        exact T11 _ _ ⟨undef, undef, false, rfl, rfl, HS⟩
      · skip
        refine p_on rfl (by rw [hops7]; rfl) ?_
        refine p_run _ (x_move (.int .i64 x) rfl rfl) rfl ?_
        refine p_on rfl (by rw [hops7]; rfl) ?_
        refine p_run _ (x_cmp (k := .i64) (m := x) (n := 240) .lss (decide (x < 240)) rfl rfl rfl rfl rfl) rfl ?_
        refine p_run _ (x_pick true (.bool (decide (x < 240))) (.bool false) (.bool (decide (x < 240))) rfl rfl rfl rfl rfl) rfl ?_
        exact T11 _ _ ⟨(.int .i64 x), (.bool (decide (x < 240))), (decide (x < 240)), rfl, rfl, HS⟩
    clear HS
    rintro _ w_ ⟨uz6, uz7, bz10, rfl, hbz10, HS⟩
    skip
    refine p_run _ (x_assign (.bool bz10) rfl rfl) rfl ?_
    clear hops7
    refine wpList_nil ?_
    refine hK6 _ _ ?_
    refine wp_ret ?_
    try simp only [Exit.inBlock, Exit.then]
    refine c_ret (.bool bz10) (r_tmp rfl rfl) ?_
    have e1 : rtOk x = bz10 := by unfold rtOk; rw [hbz10, hbz9]
    rw [e1]
    exact ⟨rfl, HS.belowOf⟩
set_option maxRecDepth 10000 in
theorem empty_any (w : World) : Calls Try.prog 11 #[] w fun e w' => e = .returned (.agg #[.int .u64 0, .int .u32 0, .int .u32 0, .int .u32 0, .int .u32 0, .int .i64 0, .int .i64 0, .int .i64 (-1)]) ∧ Below w.heap.size w w' := by
  have HS := St.empty w
  · skip
    refine c_enter Try.func11 rfl 2 rfl [undef, undef] rfl ?_
    refine wp_seq_k (fun K1 hK2 => ?_)
    refine c_region (fun ops4 hops3 => ?_)
    clear hops3
    refine St.wAlloc HS (cs := [.int .u64 0, .int .u32 0, .int .u32 0, .int .u32 0, .int .u32 0, .int .i64 0, .int .i64 0, .int .i64 0]) (.agg [.int .u64 0, .int .u32 0, .int .u32 0, .int .u32 0, .int .u32 0, .int .i64 0, .int .i64 0, .int .i64 0].toArray) (by kernel_rfl) rfl ?_
    clear HS
    intro g5 w6 hg7 HS
    refine wpList_nil ?_
    refine hK2 _ _ ?_
    refine wp_seq_k (fun K8 hK9 => ?_)
    refine c_region (fun ops11 hops10 => ?_)
    clear hops10
    refine p_run _ (x_build [.int .u64 0, .int .u32 0, .int .u32 0, .int .u32 0, .int .u32 0, .int .i64 0, .int .i64 0, .int .i64 (-1)] rfl (by kernel_rfl)) rfl ?_
    refine St.stores (cs' := [.int .u64 0, .int .u32 0, .int .u32 0, .int .u32 0, .int .u32 0, .int .i64 0, .int .i64 0, .int .i64 (-1)]) HS [.int .u64 0, .int .u32 0, .int .u32 0, .int .u32 0, .int .u32 0, .int .i64 0, .int .i64 0, .int .i64 (-1)] 8 rfl rfl (by rfl) (by kernel_rfl) rfl (by simp) rfl ?_
    clear HS
    intro w12 HS
    refine wpList_nil ?_
    refine hK9 _ _ ?_
    refine wp_ret ?_
    try simp only [Exit.inBlock, Exit.then]
    refine c_ret (.agg ([.int .u64 0, .int .u32 0, .int .u32 0, .int .u32 0, .int .u32 0, .int .i64 0, .int .i64 0, .int .i64 (-1)] : List Value).toArray) (r_c rfl rfl (run_loadVar_aggn (by rfl) [.int .u64 0, .int .u32 0, .int .u32 0, .int .u32 0, .int .u32 0, .int .i64 0, .int .i64 0, .int .i64 (-1)] 8 (by kernel_rfl) rfl (bkCells (HS.get (.head _)) 0 _ (whole _)))) ?_
    exact ⟨rfl, HS.belowOf⟩
set_option maxRecDepth 10000 in
set_option maxHeartbeats 2000000 in
theorem stage_any (w : World) (s te tq be bq nx tt rt : Int) : Calls Try.prog 35 #[.agg ([.int .u64 s, .int .u32 te, .int .u32 tq, .int .u32 be, .int .u32 bq, .int .i64 nx, .int .i64 tt, .int .i64 rt] : List Value).toArray] w fun e w' => e = .returned (.bool (sgOk s te tq be bq nx tt rt)) ∧ Below w.heap.size w w' := by
  have HS := St.empty w
  · skip
    refine c_enter Try.func35 rfl 49 rfl (.agg ([.int .u64 s, .int .u32 te, .int .u32 tq, .int .u32 be, .int .u32 bq, .int .i64 nx, .int .i64 tt, .int .i64 rt] : List Value).toArray :: U32k1 (U16k1 ([]))) rfl ?_
    refine wp_seq_k (fun K1 hK2 => ?_)
    refine c_region (fun ops4 hops3 => ?_)
    clear hops3
    refine St.wBox HS (cs := [.int .u64 s, .int .u32 te, .int .u32 tq, .int .u32 be, .int .u32 bq, .int .i64 nx, .int .i64 tt, .int .i64 rt]) (.agg ([.int .u64 s, .int .u32 te, .int .u32 tq, .int .u32 be, .int .u32 bq, .int .i64 nx, .int .i64 tt, .int .i64 rt] : List Value).toArray) rfl rfl ?_
    clear HS
    intro g5 w6 hg7 HS
    refine p_run _ (x_assign (.bool false) rfl rfl) rfl ?_
    refine wpList_nil ?_
    refine hK2 _ _ ?_
    refine wp_seq_k (fun K8 hK9 => ?_)
    refine wp_seq_k (fun K10 hK11 => ?_)
    refine free_frame (n := 3) (T := _) [0, 0, 3] [(0, 4), (1, 5), (2, 6)] (fun bq_ vq_ w_ => qv ((fun i_ => match i_ with | 0 => some (.agg ([.int .u64 s, .int .u32 te, .int .u32 tq, .int .u32 be, .int .u32 bq, .int .i64 nx, .int .i64 tt, .int .i64 rt] : List Value).toArray) | 2 => some (.bool (sgNone s te tq be bq nx tt rt)) | _ => none) : Nat → Option Value) bq_ vq_ ∧ cond (bq_ 1) (vq_ 1 = .agg ([.int .u64 0, .int .u32 0, .int .u32 0, .int .u32 0, .int .u32 0, .int .i64 0, .int .i64 0, .int .i64 (-1)] : List Value).toArray ∧ St w (fun _ => False) w_ ([blk g5 [.int .u64 s, .int .u32 te, .int .u32 tq, .int .u32 be, .int .u32 bq, .int .i64 nx, .int .i64 tt, .int .i64 rt] 32])) ((St w (fun _ => False) w_ ([blk g5 [.int .u64 s, .int .u32 te, .int .u32 tq, .int .u32 be, .int .u32 bq, .int .i64 nx, .int .i64 tt, .int .i64 rt] 32])))) (by kernel_rfl) rfl rfl (by kernel_rfl) (by kernel_rfl) rfl (by kernel_rfl) (by kernel_rfl) ⟨qv_none, HS.draw⟩ ?_ ?_
    · clear HS
      intro i_ hi_ bq_ vq_ a_ w_ hG hb_ hon hoff hfr hel hval
      obtain ⟨hV, hE⟩ := hG
      have hi_ := List.mem_range.1 hi_
      obtain ⟨l_, rfl⟩ := hfr
      have hv_ := fun (j t : Nat) (v : Value) (h1 : (j, t) ∈ [(0, 4), (1, 5), (2, 6)]) h2 h3 => (hval (j, t) h1 h3).trans (congrArg some (hV j v h2 h3))
      have hcs : i_ = 0 ∨ i_ = 1 ∨ i_ = 2 := by omega
      rcases hcs with rfl | rfl | rfl
      · rcases hq1 : bq_ 1 with _ | _
        · skip
          have hE0 := hE
          rw [show bq_ 1 = false from hq1] at hE0
          simp only [cond_true, cond_false] at hE0
          have HS := hE0
          have e1 : evl l_ (.tmp 1) = .pointer (some ⟨g5, 0, none⟩) := evl_of ((hel 1 (by decide)).trans rfl)
          exact ⟨_, rfl, fun K_ hK_ => q_op _ (x_loads [.int .u64 s, .int .u32 te, .int .u32 tq, .int .u32 be, .int .u32 bq, .int .i64 nx, .int .i64 tt, .int .i64 rt] 8 rfl e1 (bkCells (HS.get (.head _)) 0 _ rfl) (by rfl) (by kernel_rfl) rfl) (hK_ _ _ ⟨qv_up hV (fun _ h => Option.some.inj h), hE⟩)⟩
        · have hE0 := hE
          rw [show bq_ 1 = true from hq1] at hE0
          simp only [cond_true, cond_false] at hE0
          obtain ⟨hv1, HS⟩ := hE0
          have e1 : evl l_ (.tmp 1) = .pointer (some ⟨g5, 0, none⟩) := evl_of ((hel 1 (by decide)).trans rfl)
          exact ⟨_, rfl, fun K_ hK_ => q_op _ (x_loads [.int .u64 s, .int .u32 te, .int .u32 tq, .int .u32 be, .int .u32 bq, .int .i64 nx, .int .i64 tt, .int .i64 rt] 8 rfl e1 (bkCells (HS.get (.head _)) 0 _ rfl) (by rfl) (by kernel_rfl) rfl) (hK_ _ _ ⟨qv_up hV (fun _ h => Option.some.inj h), hE⟩)⟩
      · have hE0 := hE
        rw [show bq_ 1 = false from hb_] at hE0
        simp only [cond_true, cond_false] at hE0
        have HS := hE0
        refine ⟨_, rfl, fun K_ hK_ => wp_of_list rfl ?_⟩
        intro ops_
        refine w_call [] Try.func11 (by kernel_rfl) (by rfl) rfl ?_
        refine (empty_any _).mono ?_
        rintro e w900101 ⟨rfl, hb_⟩
        replace HS := HS.here hb_
        clear hb_
        refine ⟨_, rfl, ?_⟩
        refine wpList_nil ?_
        refine norm_put (hK_ (.agg ([.int .u64 0, .int .u32 0, .int .u32 0, .int .u32 0, .int .u32 0, .int .i64 0, .int .i64 0, .int .i64 (-1)] : List Value).toArray) _ ⟨qv_up hV (by intro _ h; cases h), ?_⟩)
        show cond true _ _
        rw [cond_true]
        exact ⟨rfl, HS⟩
      · have h5 := hval (1, 5) (by decide) (hon 1 (by decide))
        have hE0 := hE
        rw [show bq_ 1 = true from (hon 1 (by decide))] at hE0
        simp only [cond_true, cond_false] at hE0
        obtain ⟨hv1, HS⟩ := hE0
        rw [hv1] at h5
        have e4 : evl l_ (.tmp 4) = .agg ([.int .u64 s, .int .u32 te, .int .u32 tq, .int .u32 be, .int .u32 bq, .int .i64 nx, .int .i64 tt, .int .i64 rt] : List Value).toArray := evl_of (hv_ 0 4 _ (by decide) rfl (hon 0 (by decide)))
        have e5 : evl l_ (.tmp 5) = .agg ([.int .u64 0, .int .u32 0, .int .u32 0, .int .u32 0, .int .u32 0, .int .i64 0, .int .i64 0, .int .i64 (-1)] : List Value).toArray := evl_of h5
        exact ⟨_, rfl, fun K_ hK_ => q_op _ (x_eq .eql (.agg ([.int .u64 s, .int .u32 te, .int .u32 tq, .int .u32 be, .int .u32 bq, .int .i64 nx, .int .i64 tt, .int .i64 rt] : List Value).toArray) (.agg ([.int .u64 0, .int .u32 0, .int .u32 0, .int .u32 0, .int .u32 0, .int .i64 0, .int .i64 0, .int .i64 (-1)] : List Value).toArray) (decide (s = 0 ∧ (te = 0 ∧ tq = 0) ∧ (be = 0 ∧ bq = 0) ∧ nx = 0 ∧ tt = 0 ∧ rt = (-1))) ((sgNone s te tq be bq nx tt rt)) rfl e4 e5 (equal_sg _ s te tq be bq nx tt rt 0 0 0 0 0 0 0 (-1)) rfl rfl (guard_agg (by kernel_rfl)) (guard_agg (by kernel_rfl))) (hK_ _ _ ⟨qv_up hV (fun _ h => Option.some.inj h), hE⟩)⟩
    intro bq_ vq_ w_ hall hG
    obtain ⟨hV, hE⟩ := hG
    clear HS
    rw [show bq_ 1 = true from hall 1 (by decide)] at hE
    simp only [cond_true] at hE
    obtain ⟨hv1, HS⟩ := hE
    have hv0 := hV 0 _ rfl (hall 0 (by decide))
    have hv2 := hV 2 _ rfl (hall 2 (by decide))
    clear hV hall
    rw [putSel_fr]
    simp only [tells, List.map_cons, List.map_nil, setAll, List.set_cons_succ, List.set_cons_zero, hv0, hv1, hv2]
    clear hv0 hv1 hv2
    generalize w_ = w900201 at HS ⊢
    refine fr_at (l' := (.agg ([.int .u64 s, .int .u32 te, .int .u32 tq, .int .u32 be, .int .u32 bq, .int .i64 nx, .int .i64 tt, .int .i64 rt] : List Value).toArray :: .pointer (some ⟨g5, 0, none⟩) :: .bool false :: undef :: .agg ([.int .u64 s, .int .u32 te, .int .u32 tq, .int .u32 be, .int .u32 bq, .int .i64 nx, .int .i64 tt, .int .i64 rt] : List Value).toArray :: .agg ([.int .u64 0, .int .u32 0, .int .u32 0, .int .u32 0, .int .u32 0, .int .i64 0, .int .i64 0, .int .i64 (-1)] : List Value).toArray :: .bool (sgNone s te tq be bq nx tt rt) :: U32k1 (U8k1 (undef :: undef :: [])))) rfl ?_
    refine hK11 _ _ ?_
    refine c_cond (t := (sgNone s te tq be bq nx tt rt)) rfl (fun hc900202 => ?_) (fun hc900202 => ?_)
    · have hnone := hc900202
      refine wp_seq_k (fun K900203 hK900204 => ?_)
      refine c_region (fun ops900206 hops900205 => ?_)
      clear hops900205
      refine p_run _ (x_assign (.bool true) rfl rfl) rfl ?_
      refine wpList_nil ?_
      refine hK900204 _ _ ?_
      refine wp_ret ?_
      try simp only [Exit.inBlock, Exit.then]
      refine c_ret (.bool true) (r_tmp rfl rfl) ?_
      have e1 : sgOk s te tq be bq nx tt rt = true := by unfold sgOk; rw [hnone]; rfl
      rw [e1]
      exact ⟨rfl, HS.belowOf⟩
    · have hnone := hc900202
      refine wp_skip ?_
      refine hK9 _ _ ?_
      refine wp_seq_k (fun K900207 hK900208 => ?_)
      refine c_region (fun ops900210 hops900209 => ?_)
      refine p_run _ (x_field (j := 1) _ _ rfl rfl Try.underlying32 rfl (by rfl) rfl) rfl ?_
      refine p_run _ (x_loads [.int .u32 te, .int .u32 tq] 2 rfl rfl (bkCells (HS.get (.head _)) 1 _ rfl) (by rfl) (by kernel_rfl) rfl) rfl ?_
      refine w_call [.agg ([.int .u32 te, .int .u32 tq] : List Value).toArray] Try.func54 (by kernel_rfl) (by rfl) rfl ?_
      refine (lright_any _ te tq).mono ?_
      rintro e w900211 ⟨rfl, hb_⟩
      replace HS := HS.here hb_
      clear hb_
      refine ⟨_, rfl, ?_⟩
      refine p_run _ (x_move (.bool (lbOk te tq)) rfl rfl) rfl ?_
      obtain ⟨bz900212, hbz900212⟩ : ∃ b_, b_ = ((lbOk te tq)) := ⟨_, rfl⟩
      rw [← hbz900212]
      refine p_tail 5 (fun a_ w_ => ∃ (uz11 uz12 uz13 uz14 : Value) (bz900213 : Bool), a_ = fr (.agg ([.int .u64 s, .int .u32 te, .int .u32 tq, .int .u32 be, .int .u32 bq, .int .i64 nx, .int .i64 tt, .int .i64 rt] : List Value).toArray :: .pointer (some ⟨g5, 0, none⟩) :: .bool false :: undef :: .agg ([.int .u64 s, .int .u32 te, .int .u32 tq, .int .u32 be, .int .u32 bq, .int .i64 nx, .int .i64 tt, .int .i64 rt] : List Value).toArray :: .agg ([.int .u64 0, .int .u32 0, .int .u32 0, .int .u32 0, .int .u32 0, .int .i64 0, .int .i64 0, .int .i64 (-1)] : List Value).toArray :: .bool (sgNone s te tq be bq nx tt rt) :: .pointer (some ⟨g5, 1, none⟩) :: .agg ([.int .u32 te, .int .u32 tq] : List Value).toArray :: .bool bz900212 :: .bool bz900212 :: uz11 :: uz12 :: uz13 :: uz14 :: .bool bz900213 :: U32k1 (undef :: [])) ∧ bz900213 = (bz900212 && (!(decide (te = 0 ∧ tq = 0)))) ∧ St w (fun _ => False) w_ ([blk g5 [.int .u64 s, .int .u32 te, .int .u32 tq, .int .u32 be, .int .u32 bq, .int .i64 nx, .int .i64 tt, .int .i64 rt] 32])) (fun T900214 => ?_) ?_
      · cases bz900212
        · skip
          refine p_off (by rw [hops900209]; rfl) rfl ?_
          refine p_off (by rw [hops900209]; rfl) rfl ?_
          refine p_off (by rw [hops900209]; rfl) rfl ?_
          refine p_off (by rw [hops900209]; rfl) rfl ?_
          refine p_run _ (x_pick false (undef) (.bool false) (.bool false) rfl rfl rfl rfl rfl) rfl ?_
          exact T900214 _ _ ⟨undef, undef, undef, undef, false, rfl, rfl, HS⟩
        · skip
          refine p_on rfl (by rw [hops900209]; rfl) ?_
          refine p_run _ (x_field (j := 1) _ _ rfl rfl Try.underlying32 rfl (by rfl) rfl) rfl ?_
          refine p_on rfl (by rw [hops900209]; rfl) ?_
          refine p_run _ (x_loads [.int .u32 te, .int .u32 tq] 2 rfl rfl (bkCells (HS.get (.head _)) 1 _ rfl) (by rfl) (by kernel_rfl) rfl) rfl ?_
          refine p_on rfl (by rw [hops900209]; rfl) ?_
          refine p_run _ (x_build [.int .u32 0, .int .u32 0] rfl (by kernel_rfl)) rfl ?_
          refine p_on rfl (by rw [hops900209]; rfl) ?_
          refine p_run _ (x_eq .neq (.agg ([.int .u32 te, .int .u32 tq] : List Value).toArray) (.agg ([.int .u32 0, .int .u32 0] : List Value).toArray) (decide (te = 0 ∧ tq = 0)) (!(decide (te = 0 ∧ tq = 0))) rfl rfl rfl (equal_lb _ te tq 0 0) rfl rfl (guard_agg (by kernel_rfl)) (guard_agg (by kernel_rfl))) rfl ?_
          refine p_run _ (x_pick true (.bool (!(decide (te = 0 ∧ tq = 0)))) (.bool false) (.bool (!(decide (te = 0 ∧ tq = 0)))) rfl rfl rfl rfl rfl) rfl ?_
          exact T900214 _ _ ⟨(.pointer (some ⟨g5, 1, none⟩)), (.agg ([.int .u32 te, .int .u32 tq] : List Value).toArray), (.agg ([.int .u32 0, .int .u32 0] : List Value).toArray), (.bool (!(decide (te = 0 ∧ tq = 0)))), (!(decide (te = 0 ∧ tq = 0))), rfl, rfl, HS⟩
      clear HS
      rintro _ w_ ⟨uz11, uz12, uz13, uz14, bz900213, rfl, hbz900213, HS⟩
      skip
      refine p_run _ (x_move (.bool bz900213) rfl rfl) rfl ?_
      refine p_tail 4 (fun a_ w_ => ∃ (uz17 uz18 uz19 : Value) (qz900217 : V8) (bz900216 : Bool), a_ = fr (.agg ([.int .u64 s, .int .u32 te, .int .u32 tq, .int .u32 be, .int .u32 bq, .int .i64 nx, .int .i64 tt, .int .i64 rt] : List Value).toArray :: .pointer (some ⟨g5, 0, none⟩) :: .bool false :: undef :: .agg ([.int .u64 s, .int .u32 te, .int .u32 tq, .int .u32 be, .int .u32 bq, .int .i64 nx, .int .i64 tt, .int .i64 rt] : List Value).toArray :: .agg ([.int .u64 0, .int .u32 0, .int .u32 0, .int .u32 0, .int .u32 0, .int .i64 0, .int .i64 0, .int .i64 (-1)] : List Value).toArray :: .bool (sgNone s te tq be bq nx tt rt) :: .pointer (some ⟨g5, 1, none⟩) :: V8.l qz900217 (.bool bz900213 :: uz17 :: uz18 :: uz19 :: .bool bz900216 :: U16k1 (U8k1 (U4k1 ([]))))) ∧ bz900216 = (bz900213 && (lbOk be bq)) ∧ St w (fun _ => False) w_ ([blk g5 [.int .u64 s, .int .u32 te, .int .u32 tq, .int .u32 be, .int .u32 bq, .int .i64 nx, .int .i64 tt, .int .i64 rt] 32])) (fun T900218 => ?_) ?_
      · cases bz900213
        · skip
          refine p_off (by rw [hops900209]; rfl) rfl ?_
          refine p_off (by rw [hops900209]; rfl) rfl ?_
          refine p_off (by rw [hops900209]; rfl) rfl ?_
          refine p_run _ (x_pick false (undef) (.bool false) (.bool false) rfl rfl rfl rfl rfl) rfl ?_
          exact T900218 _ _ ⟨undef, undef, undef, ⟨.agg ([.int .u32 te, .int .u32 tq] : List Value).toArray, .bool bz900212, .bool bz900212, uz11, uz12, uz13, uz14, .bool false⟩, false, rfl, rfl, HS⟩
        · skip
          refine p_on rfl (by rw [hops900209]; rfl) ?_
          refine p_run _ (x_field (j := 3) _ _ rfl rfl Try.underlying32 rfl (by rfl) rfl) rfl ?_
          refine p_on rfl (by rw [hops900209]; rfl) ?_
          refine p_run _ (x_loads [.int .u32 be, .int .u32 bq] 2 rfl rfl (bkCells (HS.get (.head _)) 3 _ rfl) (by rfl) (by kernel_rfl) rfl) rfl ?_
          refine p_on rfl (by rw [hops900209]; rfl) ?_
          refine w_call [.agg ([.int .u32 be, .int .u32 bq] : List Value).toArray] Try.func54 (by kernel_rfl) (by rfl) rfl ?_
          refine (lright_any _ be bq).mono ?_
          rintro e w900219 ⟨rfl, hb_⟩
          replace HS := HS.here hb_
          clear hb_
          refine ⟨_, rfl, ?_⟩
          refine p_run _ (x_pick true (.bool (lbOk be bq)) (.bool false) (.bool (lbOk be bq)) rfl rfl rfl rfl rfl) rfl ?_
          exact T900218 _ _ ⟨(.pointer (some ⟨g5, 3, none⟩)), (.agg ([.int .u32 be, .int .u32 bq] : List Value).toArray), (.bool (lbOk be bq)), ⟨.agg ([.int .u32 te, .int .u32 tq] : List Value).toArray, .bool bz900212, .bool bz900212, uz11, uz12, uz13, uz14, .bool true⟩, (lbOk be bq), rfl, rfl, HS⟩
      clear HS
      rintro _ w_ ⟨uz17, uz18, uz19, qz900217, bz900216, rfl, hbz900216, HS⟩
      skip
      refine p_run _ (x_assign (.bool bz900216) rfl rfl) rfl ?_
      clear hops900209
      refine wpList_nil ?_
      refine hK900208 _ _ ?_
      refine wp_seq_k (fun K900221 hK900222 => ?_)
      refine c_region (fun ops900224 hops900223 => ?_)
      refine p_run _ (x_move (.bool bz900216) rfl rfl) rfl ?_
      refine p_run _ (x_move (.bool bz900216) rfl rfl) rfl ?_
      refine p_tail 4 (fun a_ w_ => ∃ (uz24 uz25 : Value) (qz900226 : V8) (bz900225 : Bool), a_ = fr (.agg ([.int .u64 s, .int .u32 te, .int .u32 tq, .int .u32 be, .int .u32 bq, .int .i64 nx, .int .i64 tt, .int .i64 rt] : List Value).toArray :: .pointer (some ⟨g5, 0, none⟩) :: .bool false :: .bool bz900216 :: .agg ([.int .u64 s, .int .u32 te, .int .u32 tq, .int .u32 be, .int .u32 bq, .int .i64 nx, .int .i64 tt, .int .i64 rt] : List Value).toArray :: .agg ([.int .u64 0, .int .u32 0, .int .u32 0, .int .u32 0, .int .u32 0, .int .i64 0, .int .i64 0, .int .i64 (-1)] : List Value).toArray :: .bool (sgNone s te tq be bq nx tt rt) :: .pointer (some ⟨g5, 1, none⟩) :: V8.l qz900217 (V8.l qz900226 (uz24 :: uz25 :: .bool bz900225 :: U16k1 (U4k1 (undef :: undef :: []))))) ∧ bz900225 = (bz900216 && (decide (tt ≥ 1))) ∧ St w (fun _ => False) w_ ([blk g5 [.int .u64 s, .int .u32 te, .int .u32 tq, .int .u32 be, .int .u32 bq, .int .i64 nx, .int .i64 tt, .int .i64 rt] 32])) (fun T900227 => ?_) ?_
      · cases bz900216
        · skip
          refine p_off (by rw [hops900223]; rfl) rfl ?_
          refine p_off (by rw [hops900223]; rfl) rfl ?_
          refine p_off (by rw [hops900223]; rfl) rfl ?_
          refine p_run _ (x_pick false (undef) (.bool false) (.bool false) rfl rfl rfl rfl rfl) rfl ?_
          exact T900227 _ _ ⟨undef, undef, ⟨.bool bz900213, uz17, uz18, uz19, .bool false, .bool false, .bool false, undef⟩, false, rfl, rfl, HS⟩
        · skip
          refine p_on rfl (by rw [hops900223]; rfl) ?_
          refine p_run _ (x_field (j := 6) _ _ rfl rfl Try.underlying32 rfl (by rfl) rfl) rfl ?_
          refine p_on rfl (by rw [hops900223]; rfl) ?_
          refine p_run _ (x_load (.int .i64 tt) rfl rfl (bkCell (HS.get (.head _)) 6 _ rfl) (by rfl)) rfl ?_
          refine p_on rfl (by rw [hops900223]; rfl) ?_
          refine p_run _ (x_cmp (k := .i64) (m := tt) (n := 1) .geq (decide (tt ≥ 1)) rfl rfl rfl rfl rfl) rfl ?_
          refine p_run _ (x_pick true (.bool (decide (tt ≥ 1))) (.bool false) (.bool (decide (tt ≥ 1))) rfl rfl rfl rfl rfl) rfl ?_
          exact T900227 _ _ ⟨(.int .i64 tt), (.bool (decide (tt ≥ 1))), ⟨.bool bz900213, uz17, uz18, uz19, .bool true, .bool true, .bool true, .pointer (some ⟨g5, 6, none⟩)⟩, (decide (tt ≥ 1)), rfl, rfl, HS⟩
      clear HS
      rintro _ w_ ⟨uz24, uz25, qz900226, bz900225, rfl, hbz900225, HS⟩
      skip
      refine p_run _ (x_move (.bool bz900225) rfl rfl) rfl ?_
      refine p_tail 4 (fun a_ w_ => ∃ (uz28 uz29 uz30 : Value) (bz900229 : Bool), a_ = fr (.agg ([.int .u64 s, .int .u32 te, .int .u32 tq, .int .u32 be, .int .u32 bq, .int .i64 nx, .int .i64 tt, .int .i64 rt] : List Value).toArray :: .pointer (some ⟨g5, 0, none⟩) :: .bool false :: .bool bz900216 :: .agg ([.int .u64 s, .int .u32 te, .int .u32 tq, .int .u32 be, .int .u32 bq, .int .i64 nx, .int .i64 tt, .int .i64 rt] : List Value).toArray :: .agg ([.int .u64 0, .int .u32 0, .int .u32 0, .int .u32 0, .int .u32 0, .int .i64 0, .int .i64 0, .int .i64 (-1)] : List Value).toArray :: .bool (sgNone s te tq be bq nx tt rt) :: .pointer (some ⟨g5, 1, none⟩) :: V8.l qz900217 (V8.l qz900226 (uz24 :: uz25 :: .bool bz900225 :: .bool bz900225 :: uz28 :: uz29 :: uz30 :: .bool bz900229 :: U16k1 (undef :: [])))) ∧ bz900229 = (bz900225 && (decide (tt ≤ 64))) ∧ St w (fun _ => False) w_ ([blk g5 [.int .u64 s, .int .u32 te, .int .u32 tq, .int .u32 be, .int .u32 bq, .int .i64 nx, .int .i64 tt, .int .i64 rt] 32])) (fun T900230 => ?_) ?_
      · cases bz900225
        · skip
          refine p_off (by rw [hops900223]; rfl) rfl ?_
          refine p_off (by rw [hops900223]; rfl) rfl ?_
          refine p_off (by rw [hops900223]; rfl) rfl ?_
          refine p_run _ (x_pick false (undef) (.bool false) (.bool false) rfl rfl rfl rfl rfl) rfl ?_
          exact T900230 _ _ ⟨undef, undef, undef, false, rfl, rfl, HS⟩
        · skip
          refine p_on rfl (by rw [hops900223]; rfl) ?_
          refine p_run _ (x_field (j := 6) _ _ rfl rfl Try.underlying32 rfl (by rfl) rfl) rfl ?_
          refine p_on rfl (by rw [hops900223]; rfl) ?_
          refine p_run _ (x_load (.int .i64 tt) rfl rfl (bkCell (HS.get (.head _)) 6 _ rfl) (by rfl)) rfl ?_
          refine p_on rfl (by rw [hops900223]; rfl) ?_
          refine p_run _ (x_cmp (k := .i64) (m := tt) (n := 64) .leq (decide (tt ≤ 64)) rfl rfl rfl rfl rfl) rfl ?_
          refine p_run _ (x_pick true (.bool (decide (tt ≤ 64))) (.bool false) (.bool (decide (tt ≤ 64))) rfl rfl rfl rfl rfl) rfl ?_
          exact T900230 _ _ ⟨(.pointer (some ⟨g5, 6, none⟩)), (.int .i64 tt), (.bool (decide (tt ≤ 64))), (decide (tt ≤ 64)), rfl, rfl, HS⟩
      clear HS
      rintro _ w_ ⟨uz28, uz29, uz30, bz900229, rfl, hbz900229, HS⟩
      skip
      refine p_run _ (x_move (.bool bz900229) rfl rfl) rfl ?_
      refine p_tail 4 (fun a_ w_ => ∃ (uz33 uz34 uz35 : Value) (qz900233 : V8) (bz900232 : Bool), a_ = fr (.agg ([.int .u64 s, .int .u32 te, .int .u32 tq, .int .u32 be, .int .u32 bq, .int .i64 nx, .int .i64 tt, .int .i64 rt] : List Value).toArray :: .pointer (some ⟨g5, 0, none⟩) :: .bool false :: .bool bz900216 :: .agg ([.int .u64 s, .int .u32 te, .int .u32 tq, .int .u32 be, .int .u32 bq, .int .i64 nx, .int .i64 tt, .int .i64 rt] : List Value).toArray :: .agg ([.int .u64 0, .int .u32 0, .int .u32 0, .int .u32 0, .int .u32 0, .int .i64 0, .int .i64 0, .int .i64 (-1)] : List Value).toArray :: .bool (sgNone s te tq be bq nx tt rt) :: .pointer (some ⟨g5, 1, none⟩) :: V8.l qz900217 (V8.l qz900226 (V8.l qz900233 (.bool bz900229 :: uz33 :: uz34 :: uz35 :: .bool bz900232 :: U8k1 (U4k1 ([])))))) ∧ bz900232 = (bz900229 && (decide (nx ≥ 0))) ∧ St w (fun _ => False) w_ ([blk g5 [.int .u64 s, .int .u32 te, .int .u32 tq, .int .u32 be, .int .u32 bq, .int .i64 nx, .int .i64 tt, .int .i64 rt] 32])) (fun T900234 => ?_) ?_
      · cases bz900229
        · skip
          refine p_off (by rw [hops900223]; rfl) rfl ?_
          refine p_off (by rw [hops900223]; rfl) rfl ?_
          refine p_off (by rw [hops900223]; rfl) rfl ?_
          refine p_run _ (x_pick false (undef) (.bool false) (.bool false) rfl rfl rfl rfl rfl) rfl ?_
          exact T900234 _ _ ⟨undef, undef, undef, ⟨uz24, uz25, .bool bz900225, .bool bz900225, uz28, uz29, uz30, .bool false⟩, false, rfl, rfl, HS⟩
        · skip
          refine p_on rfl (by rw [hops900223]; rfl) ?_
          refine p_run _ (x_field (j := 5) _ _ rfl rfl Try.underlying32 rfl (by rfl) rfl) rfl ?_
          refine p_on rfl (by rw [hops900223]; rfl) ?_
          refine p_run _ (x_load (.int .i64 nx) rfl rfl (bkCell (HS.get (.head _)) 5 _ rfl) (by rfl)) rfl ?_
          refine p_on rfl (by rw [hops900223]; rfl) ?_
          refine p_run _ (x_cmp (k := .i64) (m := nx) (n := 0) .geq (decide (nx ≥ 0)) rfl rfl rfl rfl rfl) rfl ?_
          refine p_run _ (x_pick true (.bool (decide (nx ≥ 0))) (.bool false) (.bool (decide (nx ≥ 0))) rfl rfl rfl rfl rfl) rfl ?_
          exact T900234 _ _ ⟨(.pointer (some ⟨g5, 5, none⟩)), (.int .i64 nx), (.bool (decide (nx ≥ 0))), ⟨uz24, uz25, .bool bz900225, .bool bz900225, uz28, uz29, uz30, .bool true⟩, (decide (nx ≥ 0)), rfl, rfl, HS⟩
      clear HS
      rintro _ w_ ⟨uz33, uz34, uz35, qz900233, bz900232, rfl, hbz900232, HS⟩
      skip
      refine p_run _ (x_move (.bool bz900232) rfl rfl) rfl ?_
      refine p_tail 6 (fun a_ w_ => ∃ (uz40 uz41 uz42 : Value) (qz900237 : V8) (bz900236 : Bool), a_ = fr (.agg ([.int .u64 s, .int .u32 te, .int .u32 tq, .int .u32 be, .int .u32 bq, .int .i64 nx, .int .i64 tt, .int .i64 rt] : List Value).toArray :: .pointer (some ⟨g5, 0, none⟩) :: .bool false :: .bool bz900216 :: .agg ([.int .u64 s, .int .u32 te, .int .u32 tq, .int .u32 be, .int .u32 bq, .int .i64 nx, .int .i64 tt, .int .i64 rt] : List Value).toArray :: .agg ([.int .u64 0, .int .u32 0, .int .u32 0, .int .u32 0, .int .u32 0, .int .i64 0, .int .i64 0, .int .i64 (-1)] : List Value).toArray :: .bool (sgNone s te tq be bq nx tt rt) :: .pointer (some ⟨g5, 1, none⟩) :: V8.l qz900217 (V8.l qz900226 (V8.l qz900233 (V8.l qz900237 (uz40 :: uz41 :: uz42 :: .bool bz900236 :: U4k1 (undef :: [])))))) ∧ bz900236 = (bz900232 && (decide (nx < tt))) ∧ St w (fun _ => False) w_ ([blk g5 [.int .u64 s, .int .u32 te, .int .u32 tq, .int .u32 be, .int .u32 bq, .int .i64 nx, .int .i64 tt, .int .i64 rt] 32])) (fun T900238 => ?_) ?_
      · cases bz900232
        · skip
          refine p_off (by rw [hops900223]; rfl) rfl ?_
          refine p_off (by rw [hops900223]; rfl) rfl ?_
          refine p_off (by rw [hops900223]; rfl) rfl ?_
          refine p_off (by rw [hops900223]; rfl) rfl ?_
          refine p_off (by rw [hops900223]; rfl) rfl ?_
          refine p_run _ (x_pick false (undef) (.bool false) (.bool false) rfl rfl rfl rfl rfl) rfl ?_
          exact T900238 _ _ ⟨undef, undef, undef, ⟨.bool bz900229, uz33, uz34, uz35, .bool false, .bool false, undef, undef⟩, false, rfl, rfl, HS⟩
        · skip
          refine p_on rfl (by rw [hops900223]; rfl) ?_
          refine p_run _ (x_field (j := 5) _ _ rfl rfl Try.underlying32 rfl (by rfl) rfl) rfl ?_
          refine p_on rfl (by rw [hops900223]; rfl) ?_
          refine p_run _ (x_load (.int .i64 nx) rfl rfl (bkCell (HS.get (.head _)) 5 _ rfl) (by rfl)) rfl ?_
          refine p_on rfl (by rw [hops900223]; rfl) ?_
          refine p_run _ (x_field (j := 6) _ _ rfl rfl Try.underlying32 rfl (by rfl) rfl) rfl ?_
          refine p_on rfl (by rw [hops900223]; rfl) ?_
          refine p_run _ (x_load (.int .i64 tt) rfl rfl (bkCell (HS.get (.head _)) 6 _ rfl) (by rfl)) rfl ?_
          refine p_on rfl (by rw [hops900223]; rfl) ?_
          refine p_run _ (x_cmp (k := .i64) (m := nx) (n := tt) .lss (decide (nx < tt)) rfl rfl rfl rfl rfl) rfl ?_
          refine p_run _ (x_pick true (.bool (decide (nx < tt))) (.bool false) (.bool (decide (nx < tt))) rfl rfl rfl rfl rfl) rfl ?_
          exact T900238 _ _ ⟨(.pointer (some ⟨g5, 6, none⟩)), (.int .i64 tt), (.bool (decide (nx < tt))), ⟨.bool bz900229, uz33, uz34, uz35, .bool true, .bool true, .pointer (some ⟨g5, 5, none⟩), .int .i64 nx⟩, (decide (nx < tt)), rfl, rfl, HS⟩
      clear HS
      rintro _ w_ ⟨uz40, uz41, uz42, qz900237, bz900236, rfl, hbz900236, HS⟩
      skip
      refine p_run _ (x_move (.bool bz900236) rfl rfl) rfl ?_
      refine p_tail 4 (fun a_ w_ => ∃ (qz900241 : V8) (bz900240 : Bool), a_ = fr (.agg ([.int .u64 s, .int .u32 te, .int .u32 tq, .int .u32 be, .int .u32 bq, .int .i64 nx, .int .i64 tt, .int .i64 rt] : List Value).toArray :: .pointer (some ⟨g5, 0, none⟩) :: .bool false :: .bool bz900216 :: .agg ([.int .u64 s, .int .u32 te, .int .u32 tq, .int .u32 be, .int .u32 bq, .int .i64 nx, .int .i64 tt, .int .i64 rt] : List Value).toArray :: .agg ([.int .u64 0, .int .u32 0, .int .u32 0, .int .u32 0, .int .u32 0, .int .i64 0, .int .i64 0, .int .i64 (-1)] : List Value).toArray :: .bool (sgNone s te tq be bq nx tt rt) :: .pointer (some ⟨g5, 1, none⟩) :: V8.l qz900217 (V8.l qz900226 (V8.l qz900233 (V8.l qz900237 (V8.l qz900241 (.bool bz900240 :: [])))))) ∧ bz900240 = (bz900236 && (rtOk rt)) ∧ St w (fun _ => False) w_ ([blk g5 [.int .u64 s, .int .u32 te, .int .u32 tq, .int .u32 be, .int .u32 bq, .int .i64 nx, .int .i64 tt, .int .i64 rt] 32])) (fun T900242 => ?_) ?_
      · cases bz900236
        · skip
          refine p_off (by rw [hops900223]; rfl) rfl ?_
          refine p_off (by rw [hops900223]; rfl) rfl ?_
          refine p_off (by rw [hops900223]; rfl) rfl ?_
          refine p_run _ (x_pick false (undef) (.bool false) (.bool false) rfl rfl rfl rfl rfl) rfl ?_
          exact T900242 _ _ ⟨⟨uz40, uz41, uz42, .bool false, .bool false, undef, undef, undef⟩, false, rfl, rfl, HS⟩
        · skip
          refine p_on rfl (by rw [hops900223]; rfl) ?_
          refine p_run _ (x_field (j := 7) _ _ rfl rfl Try.underlying32 rfl (by rfl) rfl) rfl ?_
          refine p_on rfl (by rw [hops900223]; rfl) ?_
          refine p_run _ (x_load (.int .i64 rt) rfl rfl (bkCell (HS.get (.head _)) 7 _ rfl) (by rfl)) rfl ?_
          refine p_on rfl (by rw [hops900223]; rfl) ?_
          refine w_call [.int .i64 rt] Try.func33 (by kernel_rfl) (by rfl) rfl ?_
          refine (root_any _ rt).mono ?_
          rintro e w900243 ⟨rfl, hb_⟩
          replace HS := HS.here hb_
          clear hb_
          refine ⟨_, rfl, ?_⟩
          refine p_run _ (x_pick true (.bool (rtOk rt)) (.bool false) (.bool (rtOk rt)) rfl rfl rfl rfl rfl) rfl ?_
          exact T900242 _ _ ⟨⟨uz40, uz41, uz42, .bool true, .bool true, .pointer (some ⟨g5, 7, none⟩), .int .i64 rt, .bool (rtOk rt)⟩, (rtOk rt), rfl, rfl, HS⟩
      clear HS
      rintro _ w_ ⟨qz900241, bz900240, rfl, hbz900240, HS⟩
      skip
      refine p_run _ (x_assign (.bool bz900240) rfl rfl) rfl ?_
      clear hops900223
      refine wpList_nil ?_
      refine hK900222 _ _ ?_
      refine wp_ret ?_
      try simp only [Exit.inBlock, Exit.then]
      refine c_ret (.bool bz900240) (r_tmp rfl rfl) ?_
      have e1 : sgOk s te tq be bq nx tt rt = bz900240 := by unfold sgOk; rw [hnone, Bool.false_or]; unfold sgGood; rw [hbz900240, hbz900236, hbz900232, hbz900229, hbz900225, hbz900216, hbz900213, hbz900212]
      rw [e1]
      exact ⟨rfl, HS.belowOf⟩
theorem sn_stop {a b : Int} {x : Sn} {l : List Sn} (h : ((!(lbOk x.1 x.2.1) || decide (cmpL x.1 x.2.1 a b ≤ 0)) || !(rtOk x.2.2.1)) = true) : snOk a b (x :: l) = false := by
  rw [cmpL_le] at h
  unfold snOk
  cases h1 : lbOk x.1 x.2.1 <;> cases h2 : ltL a b x.1 x.2.1 <;> cases h3 : rtOk x.2.2.1 <;> simp_all
theorem sn_go {a b : Int} {x : Sn} {l : List Sn} (h : ((!(lbOk x.1 x.2.1) || decide (cmpL x.1 x.2.1 a b ≤ 0)) || !(rtOk x.2.2.1)) = false) : snOk a b (x :: l) = snOk x.1 x.2.1 l := by
  rw [cmpL_le] at h
  show (lbOk x.1 x.2.1 && ltL a b x.1 x.2.1 && rtOk x.2.2.1 && snOk x.1 x.2.1 l) = _
  cases h1 : lbOk x.1 x.2.1 <;> cases h2 : ltL a b x.1 x.2.1 <;> cases h3 : rtOk x.2.2.1 <;> simp_all
set_option maxRecDepth 10000 in
set_option maxHeartbeats 4000000 in
theorem snaps_any (w : World) (A : Option Addr) (c : Nat) (l : List Sn) (hr : kSn.C w A l.length l) (hl : l.length ≤ 1000) (a b : Int) : Calls Try.prog 34 #[.slice A l.length c, .agg ([.int .u32 a, .int .u32 b] : List Value).toArray] w fun e w' => e = .returned (.bool (snsOk a b l)) ∧ Below w.heap.size w w' := by
  have HS := St.empty w
  · skip
    refine c_enter Try.func34 rfl 50 rfl (.slice A l.length c :: .agg ([.int .u32 a, .int .u32 b] : List Value).toArray :: U32k1 (U16k1 ([]))) rfl ?_
    refine wp_seq_k (fun K1 hK2 => ?_)
    refine c_region (fun ops4 hops3 => ?_)
    clear hops3
    refine St.wBox HS (cs := [.int .u32 a, .int .u32 b]) (.agg ([.int .u32 a, .int .u32 b] : List Value).toArray) rfl rfl ?_
    clear HS
    intro g5 w6 hg7 HS
    refine p_run _ (x_assign (.bool false) rfl rfl) rfl ?_
    refine wpList_nil ?_
    refine hK2 _ _ ?_
    refine wp_seq_k (fun K8 hK9 => ?_)
    refine wp_seq_k (fun K10 hK11 => ?_)
    refine c_region (fun ops13 hops12 => ?_)
    clear hops12
    refine p_run _ (x_move (.slice A l.length c) rfl rfl) rfl ?_
    refine p_run _ (x_len rfl rfl Try.underlying29) rfl ?_
    refine p_run _ (x_cmp (k := .i64) (m := (l.length : Int)) (n := 8) .gtr (decide ((l.length : Int) > 8)) rfl rfl rfl rfl rfl) rfl ?_
    refine wpList_nil ?_
    refine fr_at (l' := (.slice A l.length c :: .agg ([.int .u32 a, .int .u32 b] : List Value).toArray :: undef :: .pointer (some ⟨g5, 0, none⟩) :: .bool false :: U4k1 (.slice A l.length c :: .int .i64 (l.length : Int) :: .bool (decide ((l.length : Int) > 8)) :: U32k1 (U4k1 (undef :: undef :: []))))) rfl ?_
    refine hK11 _ _ ?_
    refine c_cond (t := decide ((l.length : Int) > 8)) rfl (fun hc14 => ?_) (fun hc14 => ?_)
    · have h8 := of_decide_eq_true hc14
      refine wp_seq_k (fun K15 hK16 => ?_)
      refine c_region (fun ops18 hops17 => ?_)
      clear hops17
      refine p_run _ (x_assign (.bool false) rfl rfl) rfl ?_
      refine wpList_nil ?_
      refine hK16 _ _ ?_
      refine wp_ret ?_
      try simp only [Exit.inBlock, Exit.then]
      refine c_ret (.bool false) (r_tmp rfl rfl) ?_
      have e1 : snsOk a b l = false := by unfold snsOk; rw [decide_eq_false (show ¬ l.length ≤ 8 by omega)]; rfl
      rw [e1]
      exact ⟨rfl, HS.belowOf⟩
    · have h8 := of_decide_eq_false hc14
      refine wp_skip ?_
      refine hK9 _ _ ?_
      refine wp_seq_k (fun K19 hK20 => ?_)
      refine free_frame (n := 7) (T := _) [0, 0, 0, 6, 0, 17, 63] [(0, 12), (1, 13), (2, 14), (3, 15), (4, 5), (6, 6)] (fun bq_ vq_ w_ => qv ((fun i_ => match i_ with | 0 => some (.agg ([.int .u32 0, .int .u32 0] : List Value).toArray) | 1 => some (.agg ([.int .u32 a, .int .u32 b] : List Value).toArray) | 2 => some (.agg ([.int .u32 0, .int .u32 0] : List Value).toArray) | 3 => some (.bool (decide (a = 0 ∧ b = 0))) | 6 => some (.bool (decide (a = 0 ∧ b = 0))) | _ => none) : Nat → Option Value) bq_ vq_ ∧ cond (bq_ 5) (∃ (g23 : Nat), vq_ 4 = .pointer (some ⟨g23, 0, none⟩) ∧ St w (fun _ => False) w_ ([blk g23 [.int .u32 0, .int .u32 0] 28, blk g5 [.int .u32 a, .int .u32 b] 28])) (cond (bq_ 4) (∃ (g23 : Nat), vq_ 4 = .pointer (some ⟨g23, 0, none⟩) ∧ St w (fun _ => False) w_ ([blk g23 [.int .u32 0, .int .u32 0] 28, blk g5 [.int .u32 a, .int .u32 b] 28])) ((St w (fun _ => False) w_ ([blk g5 [.int .u32 a, .int .u32 b] 28]))))) (by kernel_rfl) rfl rfl (by kernel_rfl) (by kernel_rfl) rfl (by kernel_rfl) (by kernel_rfl) ⟨qv_none, HS.draw⟩ ?_ ?_
      · clear HS
        intro i_ hi_ bq_ vq_ a_ w_ hG hb_ hon hoff hfr hel hval
        obtain ⟨hV, hE⟩ := hG
        have hi_ := List.mem_range.1 hi_
        obtain ⟨l_, rfl⟩ := hfr
        have hv_ := fun (j t : Nat) (v : Value) (h1 : (j, t) ∈ [(0, 12), (1, 13), (2, 14), (3, 15), (4, 5), (6, 6)]) h2 h3 => (hval (j, t) h1 h3).trans (congrArg some (hV j v h2 h3))
        have hcs : i_ = 0 ∨ i_ = 1 ∨ i_ = 2 ∨ i_ = 3 ∨ i_ = 4 ∨ i_ = 5 ∨ i_ = 6 := by omega
        rcases hcs with rfl | rfl | rfl | rfl | rfl | rfl | rfl
        · exact ⟨_, rfl, fun K_ hK_ => q_op _ (x_build [.int .u32 0, .int .u32 0] rfl (by kernel_rfl)) (hK_ _ _ ⟨qv_up hV (fun _ h => Option.some.inj h), hE⟩)⟩
        · rcases hq5 : bq_ 5 with _ | _
          · skip
            rcases hq4 : bq_ 4 with _ | _
            · skip
              have hE0 := hE
              rw [show bq_ 5 = false from hq5] at hE0
              rw [show bq_ 4 = false from hq4] at hE0
              simp only [cond_true, cond_false] at hE0
              have HS := hE0
              have e3 : evl l_ (.tmp 3) = .pointer (some ⟨g5, 0, none⟩) := evl_of ((hel 3 (by decide)).trans rfl)
              exact ⟨_, rfl, fun K_ hK_ => q_op _ (x_loads [.int .u32 a, .int .u32 b] 2 rfl e3 (bkCells (HS.get (.head _)) 0 _ rfl) (by rfl) (by kernel_rfl) rfl) (hK_ _ _ ⟨qv_up hV (fun _ h => Option.some.inj h), hE⟩)⟩
            · have hE0 := hE
              rw [show bq_ 5 = false from hq5] at hE0
              rw [show bq_ 4 = true from hq4] at hE0
              simp only [cond_true, cond_false] at hE0
              obtain ⟨g23, hv4, HS⟩ := hE0
              have e3 : evl l_ (.tmp 3) = .pointer (some ⟨g5, 0, none⟩) := evl_of ((hel 3 (by decide)).trans rfl)
              exact ⟨_, rfl, fun K_ hK_ => q_op _ (x_loads [.int .u32 a, .int .u32 b] 2 rfl e3 (bkCells (HS.get (.tail _ (.head _))) 0 _ rfl) (by rfl) (by kernel_rfl) rfl) (hK_ _ _ ⟨qv_up hV (fun _ h => Option.some.inj h), hE⟩)⟩
          · have hE0 := hE
            rw [show bq_ 5 = true from hq5] at hE0
            simp only [cond_true, cond_false] at hE0
            obtain ⟨g23, hv4, HS⟩ := hE0
            have e3 : evl l_ (.tmp 3) = .pointer (some ⟨g5, 0, none⟩) := evl_of ((hel 3 (by decide)).trans rfl)
            exact ⟨_, rfl, fun K_ hK_ => q_op _ (x_loads [.int .u32 a, .int .u32 b] 2 rfl e3 (bkCells (HS.get (.tail _ (.head _))) 0 _ rfl) (by rfl) (by kernel_rfl) rfl) (hK_ _ _ ⟨qv_up hV (fun _ h => Option.some.inj h), hE⟩)⟩
        · exact ⟨_, rfl, fun K_ hK_ => q_op _ (x_build [.int .u32 0, .int .u32 0] rfl (by kernel_rfl)) (hK_ _ _ ⟨qv_up hV (fun _ h => Option.some.inj h), hE⟩)⟩
        · rcases hq5 : bq_ 5 with _ | _
          · skip
            rcases hq4 : bq_ 4 with _ | _
            · skip
              have hE0 := hE
              rw [show bq_ 5 = false from hq5] at hE0
              rw [show bq_ 4 = false from hq4] at hE0
              simp only [cond_true, cond_false] at hE0
              have HS := hE0
              have e13 : evl l_ (.tmp 13) = .agg ([.int .u32 a, .int .u32 b] : List Value).toArray := evl_of (hv_ 1 13 _ (by decide) rfl (hon 1 (by decide)))
              have e14 : evl l_ (.tmp 14) = .agg ([.int .u32 0, .int .u32 0] : List Value).toArray := evl_of (hv_ 2 14 _ (by decide) rfl (hon 2 (by decide)))
              exact ⟨_, rfl, fun K_ hK_ => q_op _ (x_eq .eql (.agg ([.int .u32 a, .int .u32 b] : List Value).toArray) (.agg ([.int .u32 0, .int .u32 0] : List Value).toArray) (decide (a = 0 ∧ b = 0)) ((decide (a = 0 ∧ b = 0))) rfl e13 e14 (equal_lb _ a b 0 0) rfl rfl (guard_agg (by kernel_rfl)) (guard_agg (by kernel_rfl))) (hK_ _ _ ⟨qv_up hV (fun _ h => Option.some.inj h), hE⟩)⟩
            · have hE0 := hE
              rw [show bq_ 5 = false from hq5] at hE0
              rw [show bq_ 4 = true from hq4] at hE0
              simp only [cond_true, cond_false] at hE0
              obtain ⟨g23, hv4, HS⟩ := hE0
              have e13 : evl l_ (.tmp 13) = .agg ([.int .u32 a, .int .u32 b] : List Value).toArray := evl_of (hv_ 1 13 _ (by decide) rfl (hon 1 (by decide)))
              have e14 : evl l_ (.tmp 14) = .agg ([.int .u32 0, .int .u32 0] : List Value).toArray := evl_of (hv_ 2 14 _ (by decide) rfl (hon 2 (by decide)))
              exact ⟨_, rfl, fun K_ hK_ => q_op _ (x_eq .eql (.agg ([.int .u32 a, .int .u32 b] : List Value).toArray) (.agg ([.int .u32 0, .int .u32 0] : List Value).toArray) (decide (a = 0 ∧ b = 0)) ((decide (a = 0 ∧ b = 0))) rfl e13 e14 (equal_lb _ a b 0 0) rfl rfl (guard_agg (by kernel_rfl)) (guard_agg (by kernel_rfl))) (hK_ _ _ ⟨qv_up hV (fun _ h => Option.some.inj h), hE⟩)⟩
          · have hE0 := hE
            rw [show bq_ 5 = true from hq5] at hE0
            simp only [cond_true, cond_false] at hE0
            obtain ⟨g23, hv4, HS⟩ := hE0
            have e13 : evl l_ (.tmp 13) = .agg ([.int .u32 a, .int .u32 b] : List Value).toArray := evl_of (hv_ 1 13 _ (by decide) rfl (hon 1 (by decide)))
            have e14 : evl l_ (.tmp 14) = .agg ([.int .u32 0, .int .u32 0] : List Value).toArray := evl_of (hv_ 2 14 _ (by decide) rfl (hon 2 (by decide)))
            exact ⟨_, rfl, fun K_ hK_ => q_op _ (x_eq .eql (.agg ([.int .u32 a, .int .u32 b] : List Value).toArray) (.agg ([.int .u32 0, .int .u32 0] : List Value).toArray) (decide (a = 0 ∧ b = 0)) ((decide (a = 0 ∧ b = 0))) rfl e13 e14 (equal_lb _ a b 0 0) rfl rfl (guard_agg (by kernel_rfl)) (guard_agg (by kernel_rfl))) (hK_ _ _ ⟨qv_up hV (fun _ h => Option.some.inj h), hE⟩)⟩
        · have hE0 := hE
          rw [show bq_ 5 = false from (hoff 5 (by decide))] at hE0
          rw [show bq_ 4 = false from hb_] at hE0
          simp only [cond_true, cond_false] at hE0
          have HS := hE0
          refine ⟨_, rfl, fun K_ hK_ => wp_of_list rfl ?_⟩
          intro ops_
          refine St.wAlloc HS (cs := [.int .u32 0, .int .u32 0]) (.agg [.int .u32 0, .int .u32 0].toArray) (by kernel_rfl) rfl ?_
          clear HS
          intro g900401 w900402 hg900403 HS
          refine wpList_nil ?_
          refine norm_put (hK_ (.pointer (some ⟨g900401, 0, none⟩)) _ ⟨qv_up hV (by intro _ h; cases h), ?_⟩)
          show cond (bq_ 5) _ _
          rw [show bq_ 5 = false from hoff 5 (by decide), cond_false]
          show cond true _ _
          rw [cond_true]
          exact ⟨g900401, rfl, ((HS.front 1 rfl).front 1 rfl)⟩
        · have h5 := hval (4, 5) (by decide) (hon 4 (by decide))
          have h12 : (fr l_).tmps[12]? = some (.agg ([.int .u32 0, .int .u32 0] : List Value).toArray) := hv_ 0 12 _ (by decide) rfl (hon 0 (by decide))
          have hE0 := hE
          rw [show bq_ 5 = false from hb_] at hE0
          rw [show bq_ 4 = true from (hon 4 (by decide))] at hE0
          simp only [cond_true, cond_false] at hE0
          obtain ⟨g23, hv4, HS⟩ := hE0
          rw [hv4] at h5
          have e5 : evl l_ (.tmp 5) = .pointer (some ⟨g23, 0, none⟩) := evl_of h5
          have e12 : evl l_ (.tmp 12) = .agg ([.int .u32 0, .int .u32 0] : List Value).toArray := evl_of h12
          refine ⟨_, rfl, fun K_ hK_ => wp_of_list rfl ?_⟩
          intro ops_
          refine St.stores (cs' := [.int .u32 0, .int .u32 0]) HS [.int .u32 0, .int .u32 0] 2 e5 e12 (by rfl) (by kernel_rfl) rfl (by simp) rfl ?_
          clear HS
          intro w900501 HS
          refine wpList_nil ?_
          refine norm_none (hK_ undef _ ⟨qv_up hV (by intro _ h; cases h), ?_⟩)
          show cond true _ _
          rw [cond_true]
          exact ⟨g23, hv4, ((HS.front 1 rfl).front 1 rfl)⟩
        · have e15 : evl l_ (.tmp 15) = .bool (decide (a = 0 ∧ b = 0)) := evl_of (hv_ 3 15 _ (by decide) rfl (hon 3 (by decide)))
          exact ⟨_, rfl, fun K_ hK_ => q_op _ (x_assign (.bool (decide (a = 0 ∧ b = 0))) rfl e15) (hK_ _ _ ⟨qv_up hV (fun _ h => Option.some.inj h), hE⟩)⟩
      intro bq_ vq_ w_ hall hG
      obtain ⟨hV, hE⟩ := hG
      clear HS
      rw [show bq_ 5 = true from hall 5 (by decide)] at hE
      simp only [cond_true] at hE
      obtain ⟨g23, hv4, HS⟩ := hE
      have hv0 := hV 0 _ rfl (hall 0 (by decide))
      have hv1 := hV 1 _ rfl (hall 1 (by decide))
      have hv2 := hV 2 _ rfl (hall 2 (by decide))
      have hv3 := hV 3 _ rfl (hall 3 (by decide))
      have hv6 := hV 6 _ rfl (hall 6 (by decide))
      clear hV hall
      rw [putSel_fr]
      simp only [tells, List.map_cons, List.map_nil, setAll, List.set_cons_succ, List.set_cons_zero, hv0, hv1, hv2, hv3, hv4, hv6]
      clear hv0 hv1 hv2 hv3 hv4 hv6
      generalize w_ = w900502 at HS ⊢
      refine fr_at (l' := (.slice A l.length c :: .agg ([.int .u32 a, .int .u32 b] : List Value).toArray :: undef :: .pointer (some ⟨g5, 0, none⟩) :: .bool false :: .pointer (some ⟨g23, 0, none⟩) :: .bool (decide (a = 0 ∧ b = 0)) :: undef :: undef :: .slice A l.length c :: .int .i64 (l.length : Int) :: .bool (decide ((l.length : Int) > 8)) :: .agg ([.int .u32 0, .int .u32 0] : List Value).toArray :: .agg ([.int .u32 a, .int .u32 b] : List Value).toArray :: .agg ([.int .u32 0, .int .u32 0] : List Value).toArray :: .bool (decide (a = 0 ∧ b = 0)) :: U32k1 (undef :: undef :: []))) rfl ?_
      refine hK20 _ _ ?_
      refine wp_seq_k (fun K900503 hK900504 => ?_)
      refine wp_seq_k (fun K900505 hK900506 => ?_)
      refine c_region (fun ops900508 hops900507 => ?_)
      clear hops900507
      refine p_run _ (x_move (.slice A l.length c) rfl rfl) rfl ?_
      refine p_run _ (x_len rfl rfl Try.underlying29) rfl ?_
      refine p_run _ (x_move (.int .i64 0) rfl rfl) rfl ?_
      refine wpList_nil ?_
      refine fr_at (l' := (.slice A l.length c :: .agg ([.int .u32 a, .int .u32 b] : List Value).toArray :: undef :: .pointer (some ⟨g5, 0, none⟩) :: .bool false :: .pointer (some ⟨g23, 0, none⟩) :: .bool (decide (a = 0 ∧ b = 0)) :: undef :: undef :: .slice A l.length c :: .int .i64 (l.length : Int) :: .bool (decide ((l.length : Int) > 8)) :: .agg ([.int .u32 0, .int .u32 0] : List Value).toArray :: .agg ([.int .u32 a, .int .u32 b] : List Value).toArray :: .agg ([.int .u32 0, .int .u32 0] : List Value).toArray :: .bool (decide (a = 0 ∧ b = 0)) :: .slice A l.length c :: .int .i64 (l.length : Int) :: .int .i64 0 :: U16k1 (U8k1 (U4k1 (undef :: undef :: undef :: []))))) rfl ?_
      refine hK900506 _ _ ?_
      refine wp_block ?_
      refine c_loop (ι := Nat × Int × Int × Bool) (fun i_ a_ w_ => match i_ with | (j, la, lq, f) => ∃ (q900509 : V8) (q900510 : V8) (q900511 : V8) (q900512 : V8), a_ = fr (.slice A l.length c :: .agg ([.int .u32 a, .int .u32 b] : List Value).toArray :: undef :: .pointer (some ⟨g5, 0, none⟩) :: q900509.a :: .pointer (some ⟨g23, 0, none⟩) :: .bool f :: undef :: q900509.b :: .slice A l.length c :: .int .i64 (l.length : Int) :: .bool (decide ((l.length : Int) > 8)) :: .agg ([.int .u32 0, .int .u32 0] : List Value).toArray :: .agg ([.int .u32 a, .int .u32 b] : List Value).toArray :: .agg ([.int .u32 0, .int .u32 0] : List Value).toArray :: .bool (decide (a = 0 ∧ b = 0)) :: .slice A l.length c :: .int .i64 (l.length : Int) :: .int .i64 (j : Int) :: q900509.c :: q900509.d :: q900509.e :: q900509.f :: q900509.g :: q900509.h :: V8.l q900510 (V8.l q900511 (V8.l q900512 (undef :: [])))) ∧ St w (fun _ => False) w_ ([blk g23 [.int .u32 la, .int .u32 lq] 28, blk g5 [.int .u32 a, .int .u32 b] 28]) ∧ (j ≤ l.length ∧ snOk 0 0 l = snOk la lq (l.drop j) ∧ (decide (a = 0 ∧ b = 0) || snHas a b l) = (f || snHas a b (l.drop j)))) (fun i_ => match i_ with | (j, la, lq, f) => l.length - j) (0, 0, 0, (decide (a = 0 ∧ b = 0))) ?_ ?_
      · exact ⟨⟨.bool false, undef, undef, undef, undef, undef, undef, undef⟩, ⟨undef, undef, undef, undef, undef, undef, undef, undef⟩, ⟨undef, undef, undef, undef, undef, undef, undef, undef⟩, ⟨undef, undef, undef, undef, undef, undef, undef, undef⟩, rfl, ((HS.front 1 rfl).front 1 rfl), ⟨Nat.zero_le _, rfl, rfl⟩⟩
      · clear HS
        rintro ⟨j, la, lq, f⟩ a_ w900515 ⟨q900509, q900510, q900511, q900512, rfl, HS, hI⟩ J900513 hJ900514
        obtain ⟨hjl, hI1, hI2⟩ := hI
        refine wp_seq_k (fun K900516 hK900517 => ?_)
        refine c_region (fun ops900519 hops900518 => ?_)
        clear hops900518
        refine p_run _ (x_cmp (k := .i64) (m := (j : Int)) (n := (l.length : Int)) .lss (decide ((j : Int) < (l.length : Int))) rfl rfl rfl rfl rfl) rfl ?_
        refine wpList_nil ?_
        refine hK900517 _ _ ?_
        refine wp_seq_k (fun K900520 hK900521 => ?_)
        refine c_cond (t := decide ((j : Int) < (l.length : Int))) rfl (fun hc900522 => ?_) (fun hc900522 => ?_)
        · have hlt : j < l.length := by have := of_decide_eq_true hc900522; omega
          obtain ⟨ad, x, rfl, hx, -⟩ := sn_get (Kd.C_below hr HS.belowOf) j hlt
          rw [drop_at hx] at hI1 hI2
          refine wp_skip ?_
          refine hK900521 _ _ ?_
          refine wp_seq_k (fun K900523 hK900524 => ?_)
          refine wp_block ?_
          refine wp_seq_k (fun K900525 hK900526 => ?_)
          refine c_region (fun ops900528 hops900527 => ?_)
          clear hops900527
          refine p_run _ (x_index (A := ad) (j := j * 4) (sz := 4) rfl rfl rfl Try.underlying29 (by kernel_rfl) (by omega) rfl) rfl ?_
          refine p_run _ (x_loads [.int .u32 x.1, .int .u32 x.2.1, .int .i64 x.2.2.1, .int .u32 x.2.2.2] 4 rfl rfl (sn_cells (Kd.C_below hr HS.belowOf) hx) (by rfl) (by kernel_rfl) rfl) rfl ?_
          refine St.wAlloc HS (cs := [.int .u32 0, .int .u32 0, .int .i64 0, .int .u32 0]) (.agg [.int .u32 0, .int .u32 0, .int .i64 0, .int .u32 0].toArray) (by kernel_rfl) rfl ?_
          clear HS
          intro g900529 w900530 hg900531 HS
          refine St.stores (cs' := [.int .u32 x.1, .int .u32 x.2.1, .int .i64 x.2.2.1, .int .u32 x.2.2.2]) HS [.int .u32 x.1, .int .u32 x.2.1, .int .i64 x.2.2.1, .int .u32 x.2.2.2] 4 rfl rfl (by rfl) (by kernel_rfl) rfl (by simp) rfl ?_
          clear HS
          intro w900532 HS
          refine wpList_nil ?_
          refine fr_at (l' := (.slice (some ad) l.length c :: .agg ([.int .u32 a, .int .u32 b] : List Value).toArray :: undef :: .pointer (some ⟨g5, 0, none⟩) :: q900509.a :: .pointer (some ⟨g23, 0, none⟩) :: .bool f :: undef :: .pointer (some ⟨g900529, 0, none⟩) :: .slice (some ad) l.length c :: .int .i64 (l.length : Int) :: .bool (decide ((l.length : Int) > 8)) :: .agg ([.int .u32 0, .int .u32 0] : List Value).toArray :: .agg ([.int .u32 a, .int .u32 b] : List Value).toArray :: .agg ([.int .u32 0, .int .u32 0] : List Value).toArray :: .bool (decide (a = 0 ∧ b = 0)) :: .slice (some ad) l.length c :: .int .i64 (l.length : Int) :: .int .i64 (j : Int) :: .bool (decide ((j : Int) < (l.length : Int))) :: .pointer (some ((ad).add (j * 4))) :: .agg ([.int .u32 x.1, .int .u32 x.2.1, .int .i64 x.2.2.1, .int .u32 x.2.2.2] : List Value).toArray :: q900509.f :: q900509.g :: q900509.h :: V8.l q900510 (V8.l q900511 (V8.l q900512 (undef :: []))))) rfl ?_
          refine hK900526 _ _ ?_
          refine wp_seq_k (fun K900533 hK900534 => ?_)
          refine wp_seq_k (fun K900535 hK900536 => ?_)
          refine c_region (fun ops900538 hops900537 => ?_)
          refine p_run _ (x_field (j := 0) _ _ rfl rfl Try.underlying48 rfl (by rfl) rfl) rfl ?_
          refine p_run _ (x_loads [.int .u32 x.1, .int .u32 x.2.1] 2 rfl rfl (bkCells (HS.get (.head _)) 0 _ rfl) (by rfl) (by kernel_rfl) rfl) rfl ?_
          refine w_call [.agg ([.int .u32 x.1, .int .u32 x.2.1] : List Value).toArray] Try.func54 (by kernel_rfl) (by rfl) rfl ?_
          refine (lright_any _ x.1 x.2.1).mono ?_
          rintro e w900539 ⟨rfl, hb_⟩
          replace HS := HS.here hb_
          clear hb_
          refine ⟨_, rfl, ?_⟩
          refine p_run _ (x_not (lbOk x.1 x.2.1) rfl rfl) rfl ?_
          refine p_run _ (x_move (.bool (!(lbOk x.1 x.2.1))) rfl rfl) rfl ?_
          obtain ⟨bz900540, hbz900540⟩ : ∃ b_, b_ = (!(lbOk x.1 x.2.1)) := ⟨_, rfl⟩
          rw [← hbz900540]
          refine p_tail 6 (fun a_ w_ => ∃ (uz27 uz28 uz29 uz30 uz31 : Value) (bz900541 : Bool), a_ = fr (.slice (some ad) l.length c :: .agg ([.int .u32 a, .int .u32 b] : List Value).toArray :: undef :: .pointer (some ⟨g5, 0, none⟩) :: q900509.a :: .pointer (some ⟨g23, 0, none⟩) :: .bool f :: undef :: .pointer (some ⟨g900529, 0, none⟩) :: .slice (some ad) l.length c :: .int .i64 (l.length : Int) :: .bool (decide ((l.length : Int) > 8)) :: .agg ([.int .u32 0, .int .u32 0] : List Value).toArray :: .agg ([.int .u32 a, .int .u32 b] : List Value).toArray :: .agg ([.int .u32 0, .int .u32 0] : List Value).toArray :: .bool (decide (a = 0 ∧ b = 0)) :: .slice (some ad) l.length c :: .int .i64 (l.length : Int) :: .int .i64 (j : Int) :: .bool (decide ((j : Int) < (l.length : Int))) :: .pointer (some ((ad).add (j * 4))) :: .agg ([.int .u32 x.1, .int .u32 x.2.1, .int .i64 x.2.2.1, .int .u32 x.2.2.2] : List Value).toArray :: .pointer (some ⟨g900529, 0, none⟩) :: .agg ([.int .u32 x.1, .int .u32 x.2.1] : List Value).toArray :: .bool (lbOk x.1 x.2.1) :: .bool bz900540 :: .bool bz900540 :: uz27 :: uz28 :: uz29 :: uz30 :: uz31 :: .bool bz900541 :: V8.l q900511 (V8.l q900512 (undef :: []))) ∧ bz900541 = (bz900540 || (decide ((cmpL x.1 x.2.1 la lq) ≤ 0))) ∧ St w (fun _ => False) w_ ([blk g900529 [.int .u32 x.1, .int .u32 x.2.1, .int .i64 x.2.2.1, .int .u32 x.2.2.2] 48, blk g23 [.int .u32 la, .int .u32 lq] 28, blk g5 [.int .u32 a, .int .u32 b] 28])) (fun T900542 => ?_) ?_
          · cases bz900540
            · skip
              refine p_on rfl (by rw [hops900537]; rfl) ?_
              refine p_run _ (x_field (j := 0) _ _ rfl rfl Try.underlying48 rfl (by rfl) rfl) rfl ?_
              refine p_on rfl (by rw [hops900537]; rfl) ?_
              refine p_run _ (x_loads [.int .u32 x.1, .int .u32 x.2.1] 2 rfl rfl (bkCells (HS.get (.head _)) 0 _ rfl) (by rfl) (by kernel_rfl) rfl) rfl ?_
              refine p_on rfl (by rw [hops900537]; rfl) ?_
              refine p_run _ (x_loads [.int .u32 la, .int .u32 lq] 2 rfl rfl (bkCells (HS.get (.tail _ (.head _))) 0 _ rfl) (by rfl) (by kernel_rfl) rfl) rfl ?_
              refine p_on rfl (by rw [hops900537]; rfl) ?_
              refine w_call [.agg ([.int .u32 x.1, .int .u32 x.2.1] : List Value).toArray, .agg ([.int .u32 la, .int .u32 lq] : List Value).toArray] Try.func55 (by kernel_rfl) (by rfl) rfl ?_
              refine (lcmp_any _ x.1 x.2.1 la lq).mono ?_
              rintro e w900543 ⟨rfl, hb_⟩
              replace HS := HS.here hb_
              clear hb_
              refine ⟨_, rfl, ?_⟩
              refine p_on rfl (by rw [hops900537]; rfl) ?_
              refine p_run _ (x_cmp (k := .i64) (m := (cmpL x.1 x.2.1 la lq)) (n := 0) .leq (decide ((cmpL x.1 x.2.1 la lq) ≤ 0)) rfl rfl rfl rfl rfl) rfl ?_
              refine p_run _ (x_pick false (.bool true) (.bool (decide ((cmpL x.1 x.2.1 la lq) ≤ 0))) (.bool (decide ((cmpL x.1 x.2.1 la lq) ≤ 0))) rfl rfl rfl rfl rfl) rfl ?_
              exact T900542 _ _ ⟨(.pointer (some ⟨g900529, 0, none⟩)), (.agg ([.int .u32 x.1, .int .u32 x.2.1] : List Value).toArray), (.agg ([.int .u32 la, .int .u32 lq] : List Value).toArray), (.int .i64 (cmpL x.1 x.2.1 la lq)), (.bool (decide ((cmpL x.1 x.2.1 la lq) ≤ 0))), (decide ((cmpL x.1 x.2.1 la lq) ≤ 0)), rfl, rfl, HS⟩
            · skip
              refine p_off (by rw [hops900537]; rfl) rfl ?_
              refine p_off (by rw [hops900537]; rfl) rfl ?_
              refine p_off (by rw [hops900537]; rfl) rfl ?_
              refine p_off (by rw [hops900537]; rfl) rfl ?_
              refine p_off (by rw [hops900537]; rfl) rfl ?_
              refine p_run _ (x_pick true (.bool true) (undef) (.bool true) rfl rfl rfl rfl rfl) rfl ?_
              exact T900542 _ _ ⟨undef, undef, undef, undef, undef, true, rfl, rfl, HS⟩
          clear HS
          rintro _ w_ ⟨uz27, uz28, uz29, uz30, uz31, bz900541, rfl, hbz900541, HS⟩
          skip
          refine p_run _ (x_move (.bool bz900541) rfl rfl) rfl ?_
          refine p_tail 5 (fun a_ w_ => ∃ (uz34 uz35 uz36 uz37 : Value) (bz900545 : Bool), a_ = fr (.slice (some ad) l.length c :: .agg ([.int .u32 a, .int .u32 b] : List Value).toArray :: undef :: .pointer (some ⟨g5, 0, none⟩) :: q900509.a :: .pointer (some ⟨g23, 0, none⟩) :: .bool f :: undef :: .pointer (some ⟨g900529, 0, none⟩) :: .slice (some ad) l.length c :: .int .i64 (l.length : Int) :: .bool (decide ((l.length : Int) > 8)) :: .agg ([.int .u32 0, .int .u32 0] : List Value).toArray :: .agg ([.int .u32 a, .int .u32 b] : List Value).toArray :: .agg ([.int .u32 0, .int .u32 0] : List Value).toArray :: .bool (decide (a = 0 ∧ b = 0)) :: .slice (some ad) l.length c :: .int .i64 (l.length : Int) :: .int .i64 (j : Int) :: .bool (decide ((j : Int) < (l.length : Int))) :: .pointer (some ((ad).add (j * 4))) :: .agg ([.int .u32 x.1, .int .u32 x.2.1, .int .i64 x.2.2.1, .int .u32 x.2.2.2] : List Value).toArray :: .pointer (some ⟨g900529, 0, none⟩) :: .agg ([.int .u32 x.1, .int .u32 x.2.1] : List Value).toArray :: .bool (lbOk x.1 x.2.1) :: .bool bz900540 :: .bool bz900540 :: uz27 :: uz28 :: uz29 :: uz30 :: uz31 :: .bool bz900541 :: .bool bz900541 :: uz34 :: uz35 :: uz36 :: uz37 :: .bool bz900545 :: q900511.g :: q900511.h :: V8.l q900512 (undef :: [])) ∧ bz900545 = (bz900541 || (!(rtOk x.2.2.1))) ∧ St w (fun _ => False) w_ ([blk g900529 [.int .u32 x.1, .int .u32 x.2.1, .int .i64 x.2.2.1, .int .u32 x.2.2.2] 48, blk g23 [.int .u32 la, .int .u32 lq] 28, blk g5 [.int .u32 a, .int .u32 b] 28])) (fun T900546 => ?_) ?_
          · cases bz900541
            · skip
              refine p_on rfl (by rw [hops900537]; rfl) ?_
              refine p_run _ (x_field (j := 2) _ _ rfl rfl Try.underlying48 rfl (by rfl) rfl) rfl ?_
              refine p_on rfl (by rw [hops900537]; rfl) ?_
              refine p_run _ (x_load (.int .i64 x.2.2.1) rfl rfl (bkCell (HS.get (.head _)) 2 _ rfl) (by rfl)) rfl ?_
              refine p_on rfl (by rw [hops900537]; rfl) ?_
              refine w_call [.int .i64 x.2.2.1] Try.func33 (by kernel_rfl) (by rfl) rfl ?_
              refine (root_any _ x.2.2.1).mono ?_
              rintro e w900547 ⟨rfl, hb_⟩
              replace HS := HS.here hb_
              clear hb_
              refine ⟨_, rfl, ?_⟩
              refine p_on rfl (by rw [hops900537]; rfl) ?_
              refine p_run _ (x_not (rtOk x.2.2.1) rfl rfl) rfl ?_
              refine p_run _ (x_pick false (.bool true) (.bool (!(rtOk x.2.2.1))) (.bool (!(rtOk x.2.2.1))) rfl rfl rfl rfl rfl) rfl ?_
              exact T900546 _ _ ⟨(.pointer (some ⟨g900529, 2, none⟩)), (.int .i64 x.2.2.1), (.bool (rtOk x.2.2.1)), (.bool (!(rtOk x.2.2.1))), (!(rtOk x.2.2.1)), rfl, rfl, HS⟩
            · skip
              refine p_off (by rw [hops900537]; rfl) rfl ?_
              refine p_off (by rw [hops900537]; rfl) rfl ?_
              refine p_off (by rw [hops900537]; rfl) rfl ?_
              refine p_off (by rw [hops900537]; rfl) rfl ?_
              refine p_run _ (x_pick true (.bool true) (undef) (.bool true) rfl rfl rfl rfl rfl) rfl ?_
              exact T900546 _ _ ⟨undef, undef, undef, undef, true, rfl, rfl, HS⟩
          clear HS
          rintro _ w_ ⟨uz34, uz35, uz36, uz37, bz900545, rfl, hbz900545, HS⟩
          skip
          clear hops900537
          refine wpList_nil ?_
          refine hK900536 _ _ ?_
          refine c_cond (t := bz900545) rfl (fun hc900549 => ?_) (fun hc900549 => ?_)
          · rw [hbz900545, hbz900541, hbz900540] at hc900549
            have hst : snOk 0 0 l = false := hI1.trans (sn_stop hc900549)
            refine wp_seq_k (fun K900550 hK900551 => ?_)
            refine c_region (fun ops900553 hops900552 => ?_)
            clear hops900552
            refine p_run _ (x_assign (.bool false) rfl rfl) rfl ?_
            refine wpList_nil ?_
            refine hK900551 _ _ ?_
            refine wp_ret ?_
            try simp only [Exit.inBlock, Exit.then]
            refine c_ret (.bool false) (r_tmp rfl rfl) ?_
            have e1 : snsOk a b l = false := by unfold snsOk; rw [hst, Bool.false_and, Bool.and_false]
            rw [e1]
            exact ⟨rfl, HS.belowOf⟩
          · rw [hbz900545, hbz900541, hbz900540] at hc900549
            rw [sn_go hc900549] at hI1
            refine wp_skip ?_
            refine hK900534 _ _ ?_
            refine wp_seq_k (fun K900554 hK900555 => ?_)
            refine c_region (fun ops900557 hops900556 => ?_)
            clear hops900556
            refine p_run _ (x_field (j := 0) _ _ rfl rfl Try.underlying48 rfl (by rfl) rfl) rfl ?_
            refine p_run _ (x_loads [.int .u32 x.1, .int .u32 x.2.1] 2 rfl rfl (bkCells (HS.get (.head _)) 0 _ rfl) (by rfl) (by kernel_rfl) rfl) rfl ?_
            refine St.stores (cs' := [.int .u32 x.1, .int .u32 x.2.1]) (HS.front 1 rfl) [.int .u32 x.1, .int .u32 x.2.1] 2 rfl rfl (by rfl) (by kernel_rfl) rfl (by simp) rfl ?_
            clear HS
            intro w900558 HS
            refine wpList_nil ?_
            refine hK900555 _ _ ?_
            refine c_region (fun ops900560 hops900559 => ?_)
            refine p_run _ (x_move (.bool f) rfl rfl) rfl ?_
            refine p_run _ (x_move (.bool f) rfl rfl) rfl ?_
            refine p_tail 5 (fun a_ w_ => ∃ (uz43 uz44 uz45 uz46 : Value) (bz900561 : Bool), a_ = fr (.slice (some ad) l.length c :: .agg ([.int .u32 a, .int .u32 b] : List Value).toArray :: undef :: .pointer (some ⟨g5, 0, none⟩) :: q900509.a :: .pointer (some ⟨g23, 0, none⟩) :: .bool f :: undef :: .pointer (some ⟨g900529, 0, none⟩) :: .slice (some ad) l.length c :: .int .i64 (l.length : Int) :: .bool (decide ((l.length : Int) > 8)) :: .agg ([.int .u32 0, .int .u32 0] : List Value).toArray :: .agg ([.int .u32 a, .int .u32 b] : List Value).toArray :: .agg ([.int .u32 0, .int .u32 0] : List Value).toArray :: .bool (decide (a = 0 ∧ b = 0)) :: .slice (some ad) l.length c :: .int .i64 (l.length : Int) :: .int .i64 (j : Int) :: .bool (decide ((j : Int) < (l.length : Int))) :: .pointer (some ((ad).add (j * 4))) :: .agg ([.int .u32 x.1, .int .u32 x.2.1, .int .i64 x.2.2.1, .int .u32 x.2.2.2] : List Value).toArray :: .pointer (some ⟨g900529, 0, none⟩) :: .agg ([.int .u32 x.1, .int .u32 x.2.1] : List Value).toArray :: .bool (lbOk x.1 x.2.1) :: .bool bz900540 :: .bool bz900540 :: uz27 :: uz28 :: uz29 :: uz30 :: uz31 :: .bool bz900541 :: .bool bz900541 :: uz34 :: uz35 :: uz36 :: uz37 :: .bool bz900545 :: .pointer (some ⟨g900529, 0, none⟩) :: .agg ([.int .u32 x.1, .int .u32 x.2.1] : List Value).toArray :: .bool f :: .bool f :: uz43 :: uz44 :: uz45 :: uz46 :: .bool bz900561 :: q900512.h :: undef :: []) ∧ bz900561 = (f || (decide (x.1 = a ∧ x.2.1 = b))) ∧ St w (fun _ => False) w_ ([blk g23 [.int .u32 x.1, .int .u32 x.2.1] 28, blk g900529 [.int .u32 x.1, .int .u32 x.2.1, .int .i64 x.2.2.1, .int .u32 x.2.2.2] 48, blk g5 [.int .u32 a, .int .u32 b] 28])) (fun T900562 => ?_) ?_
            · cases f
              · skip
                refine p_on rfl (by rw [hops900559]; rfl) ?_
                refine p_run _ (x_field (j := 0) _ _ rfl rfl Try.underlying48 rfl (by rfl) rfl) rfl ?_
                refine p_on rfl (by rw [hops900559]; rfl) ?_
                refine p_run _ (x_loads [.int .u32 x.1, .int .u32 x.2.1] 2 rfl rfl (bkCells (HS.get (.tail _ (.head _))) 0 _ rfl) (by rfl) (by kernel_rfl) rfl) rfl ?_
                refine p_on rfl (by rw [hops900559]; rfl) ?_
                refine p_run _ (x_loads [.int .u32 a, .int .u32 b] 2 rfl rfl (bkCells (HS.get (.tail _ (.tail _ (.head _)))) 0 _ rfl) (by rfl) (by kernel_rfl) rfl) rfl ?_
                refine p_on rfl (by rw [hops900559]; rfl) ?_
                refine p_run _ (x_eq .eql (.agg ([.int .u32 x.1, .int .u32 x.2.1] : List Value).toArray) (.agg ([.int .u32 a, .int .u32 b] : List Value).toArray) (decide (x.1 = a ∧ x.2.1 = b)) ((decide (x.1 = a ∧ x.2.1 = b))) rfl rfl rfl (equal_lb _ x.1 x.2.1 a b) rfl rfl (guard_agg (by kernel_rfl)) (guard_agg (by kernel_rfl))) rfl ?_
                refine p_run _ (x_pick false (.bool true) (.bool (decide (x.1 = a ∧ x.2.1 = b))) (.bool (decide (x.1 = a ∧ x.2.1 = b))) rfl rfl rfl rfl rfl) rfl ?_
                exact T900562 _ _ ⟨(.pointer (some ⟨g900529, 0, none⟩)), (.agg ([.int .u32 x.1, .int .u32 x.2.1] : List Value).toArray), (.agg ([.int .u32 a, .int .u32 b] : List Value).toArray), (.bool (decide (x.1 = a ∧ x.2.1 = b))), (decide (x.1 = a ∧ x.2.1 = b)), rfl, rfl, HS⟩
              · skip
                refine p_off (by rw [hops900559]; rfl) rfl ?_
                refine p_off (by rw [hops900559]; rfl) rfl ?_
                refine p_off (by rw [hops900559]; rfl) rfl ?_
                refine p_off (by rw [hops900559]; rfl) rfl ?_
                refine p_run _ (x_pick true (.bool true) (undef) (.bool true) rfl rfl rfl rfl rfl) rfl ?_
                exact T900562 _ _ ⟨undef, undef, undef, undef, true, rfl, rfl, HS⟩
            clear HS
            rintro _ w_ ⟨uz43, uz44, uz45, uz46, bz900561, rfl, hbz900561, HS⟩
            skip
            refine p_run _ (x_assign (.bool bz900561) rfl rfl) rfl ?_
            clear hops900559
            refine wpList_nil ?_
            refine hK900524 _ _ ?_
            refine c_region (fun ops900565 hops900564 => ?_)
            clear hops900564
            refine p_run _ (x_arith (k := .i64) (m := (j : Int)) (n := 1) .add (((j + 1 : Nat) : Int)) rfl rfl rfl (show IntKind.i64.wrap ((j : Int) + 1) = ((j + 1 : Nat) : Int) from ((wr64' (by omega)).trans (by omega))) rfl) rfl ?_
            refine p_run _ (x_move (.int .i64 ((j + 1 : Nat) : Int)) rfl rfl) rfl ?_
            refine wpList_nil ?_
            refine fr_at (l' := (.slice (some ad) l.length c :: .agg ([.int .u32 a, .int .u32 b] : List Value).toArray :: undef :: .pointer (some ⟨g5, 0, none⟩) :: q900509.a :: .pointer (some ⟨g23, 0, none⟩) :: .bool bz900561 :: undef :: .pointer (some ⟨g900529, 0, none⟩) :: .slice (some ad) l.length c :: .int .i64 (l.length : Int) :: .bool (decide ((l.length : Int) > 8)) :: .agg ([.int .u32 0, .int .u32 0] : List Value).toArray :: .agg ([.int .u32 a, .int .u32 b] : List Value).toArray :: .agg ([.int .u32 0, .int .u32 0] : List Value).toArray :: .bool (decide (a = 0 ∧ b = 0)) :: .slice (some ad) l.length c :: .int .i64 (l.length : Int) :: .int .i64 ((j + 1 : Nat) : Int) :: .bool (decide ((j : Int) < (l.length : Int))) :: .pointer (some ((ad).add (j * 4))) :: .agg ([.int .u32 x.1, .int .u32 x.2.1, .int .i64 x.2.2.1, .int .u32 x.2.2.2] : List Value).toArray :: .pointer (some ⟨g900529, 0, none⟩) :: .agg ([.int .u32 x.1, .int .u32 x.2.1] : List Value).toArray :: .bool (lbOk x.1 x.2.1) :: .bool bz900540 :: .bool bz900540 :: uz27 :: uz28 :: uz29 :: uz30 :: uz31 :: .bool bz900541 :: .bool bz900541 :: uz34 :: uz35 :: uz36 :: uz37 :: .bool bz900545 :: .pointer (some ⟨g900529, 0, none⟩) :: .agg ([.int .u32 x.1, .int .u32 x.2.1] : List Value).toArray :: .bool f :: .bool f :: uz43 :: uz44 :: uz45 :: uz46 :: .bool bz900561 :: .int .i64 ((j + 1 : Nat) : Int) :: undef :: [])) rfl ?_
            refine hJ900514 (j + 1, x.1, x.2.1, bz900561) _ _ ?_ ?_
            · show l.length - (j + 1) < l.length - j; omega
            · exact ⟨⟨q900509.a, .pointer (some ⟨g900529, 0, none⟩), .bool (decide ((j : Int) < (l.length : Int))), .pointer (some ((ad).add (j * 4))), .agg ([.int .u32 x.1, .int .u32 x.2.1, .int .i64 x.2.2.1, .int .u32 x.2.2.2] : List Value).toArray, .pointer (some ⟨g900529, 0, none⟩), .agg ([.int .u32 x.1, .int .u32 x.2.1] : List Value).toArray, .bool (lbOk x.1 x.2.1)⟩, ⟨.bool bz900540, .bool bz900540, uz27, uz28, uz29, uz30, uz31, .bool bz900541⟩, ⟨.bool bz900541, uz34, uz35, uz36, uz37, .bool bz900545, .pointer (some ⟨g900529, 0, none⟩), .agg ([.int .u32 x.1, .int .u32 x.2.1] : List Value).toArray⟩, ⟨.bool f, .bool f, uz43, uz44, uz45, uz46, .bool bz900561, .int .i64 ((j + 1 : Nat) : Int)⟩, rfl, (((HS.front 1 rfl).drop.front 1 rfl).front 1 rfl), ⟨by omega, hI1, by rw [hI2, hbz900561]; exact (Bool.or_assoc _ _ _).symm⟩⟩
        · have hlt : j = l.length := by have := of_decide_eq_false hc900522; omega
          subst hlt
          refine wp_exit ?_
          refine hK900504 _ _ ?_
          refine wp_seq_k (fun K900566 hK900567 => ?_)
          refine c_region (fun ops900569 hops900568 => ?_)
          clear hops900568
          refine p_run _ (x_move (.bool f) rfl rfl) rfl ?_
          refine p_run _ (x_assign (.bool f) rfl rfl) rfl ?_
          refine wpList_nil ?_
          refine hK900567 _ _ ?_
          refine wp_ret ?_
          try simp only [Exit.inBlock, Exit.then]
          refine c_ret (.bool f) (r_tmp rfl rfl) ?_
          have e1 : snsOk a b l = f := by
            unfold snsOk
            rw [hI2, hI1, List.drop_length, decide_eq_true (show l.length ≤ 8 by omega)]
            show (true && (true && (f || false))) = f
            cases f <;> rfl
          rw [e1]
          exact ⟨rfl, HS.belowOf⟩
set_option maxRecDepth 10000 in
set_option maxHeartbeats 2000000 in
theorem rright_any (w : World) (r : Rc) (A : Option Addr) (c : Nat) (hA : kSn.C w A r.sn.length r.sn) (hl : r.sn.length ≤ 1000) : Calls Try.prog 14 #[rcV r A c] w fun e w' => e = .returned (.bool (rcOk r)) ∧ Below w.heap.size w w' := by
  have HS := St.empty w
  · skip
    refine c_enter Try.func14 rfl 40 rfl (rcV r A c :: U32k1 (U4k1 (undef :: undef :: undef :: []))) rfl ?_
    refine wp_seq_k (fun K1 hK2 => ?_)
    refine c_region (fun ops4 hops3 => ?_)
    clear hops3
    refine St.wBox HS (cs := (.int .u32 r.e :: .bool r.p :: .int .u32 r.b :: .int .u32 r.q :: .int .i64 r.l :: .int .u32 r.xe :: .int .u32 r.xq :: .slice A r.sn.length c :: .int .u64 r.s :: .int .u32 r.te :: .int .u32 r.tq :: .int .u32 r.be :: .int .u32 r.bq :: .int .i64 r.nx :: .int .i64 r.tt :: .int .i64 r.rt :: [])) (rcV r A c) rfl rfl ?_
    clear HS
    intro g5 w6 hg7 HS
    refine p_run _ (x_assign (.bool false) rfl rfl) rfl ?_
    refine wpList_nil ?_
    refine hK2 _ _ ?_
    refine wp_seq_k (fun K8 hK9 => ?_)
    refine c_region (fun ops11 hops10 => ?_)
    refine p_run _ (x_field (j := 0) _ _ rfl rfl Try.underlying34 rfl (by rfl) rfl) rfl ?_
    refine p_run _ (x_load (.int .u32 r.e) rfl rfl (bkCell (HS.get (.head _)) 0 _ rfl) (by rfl)) rfl ?_
    refine p_run _ (x_cmp (k := .u32) (m := r.e) (n := 1) .geq (decide (r.e ≥ 1)) rfl rfl rfl rfl rfl) rfl ?_
    refine p_run _ (x_move (.bool (decide (r.e ≥ 1))) rfl rfl) rfl ?_
    obtain ⟨bz12, hbz12⟩ : ∃ b_, b_ = (decide (r.e ≥ 1)) := ⟨_, rfl⟩
    rw [← hbz12]
    refine p_tail 4 (fun a_ w_ => ∃ (uz8 uz9 uz10 : Value) (bz13 : Bool), a_ = fr (rcV r A c :: .pointer (some ⟨g5, 0, none⟩) :: .bool false :: undef :: .pointer (some ⟨g5, 0, none⟩) :: .int .u32 r.e :: .bool bz12 :: .bool bz12 :: uz8 :: uz9 :: uz10 :: .bool bz13 :: U16k1 (U8k1 (U4k1 ([])))) ∧ bz13 = (bz12 && (decide (r.e ≤ 1048576))) ∧ St w (fun _ => False) w_ ([blk g5 (.int .u32 r.e :: .bool r.p :: .int .u32 r.b :: .int .u32 r.q :: .int .i64 r.l :: .int .u32 r.xe :: .int .u32 r.xq :: .slice A r.sn.length c :: .int .u64 r.s :: .int .u32 r.te :: .int .u32 r.tq :: .int .u32 r.be :: .int .u32 r.bq :: .int .i64 r.nx :: .int .i64 r.tt :: .int .i64 r.rt :: []) 34])) (fun T14 => ?_) ?_
    · cases bz12
      · skip
        refine p_off (by rw [hops10]; rfl) rfl ?_
        refine p_off (by rw [hops10]; rfl) rfl ?_
        refine p_off (by rw [hops10]; rfl) rfl ?_
        refine p_run _ (x_pick false (undef) (.bool false) (.bool false) rfl rfl rfl rfl rfl) rfl ?_
        exact T14 _ _ ⟨undef, undef, undef, false, rfl, rfl, HS⟩
      · skip
        refine p_on rfl (by rw [hops10]; rfl) ?_
        refine p_run _ (x_field (j := 0) _ _ rfl rfl Try.underlying34 rfl (by rfl) rfl) rfl ?_
        refine p_on rfl (by rw [hops10]; rfl) ?_
        refine p_run _ (x_load (.int .u32 r.e) rfl rfl (bkCell (HS.get (.head _)) 0 _ rfl) (by rfl)) rfl ?_
        refine p_on rfl (by rw [hops10]; rfl) ?_
        refine p_run _ (x_cmp (k := .u32) (m := r.e) (n := 1048576) .leq (decide (r.e ≤ 1048576)) rfl rfl rfl rfl rfl) rfl ?_
        refine p_run _ (x_pick true (.bool (decide (r.e ≤ 1048576))) (.bool false) (.bool (decide (r.e ≤ 1048576))) rfl rfl rfl rfl rfl) rfl ?_
        exact T14 _ _ ⟨(.pointer (some ⟨g5, 0, none⟩)), (.int .u32 r.e), (.bool (decide (r.e ≤ 1048576))), (decide (r.e ≤ 1048576)), rfl, rfl, HS⟩
    clear HS
    rintro _ w_ ⟨uz8, uz9, uz10, bz13, rfl, hbz13, HS⟩
    skip
    refine p_run _ (x_move (.bool bz13) rfl rfl) rfl ?_
    refine p_tail 4 (fun a_ w_ => ∃ (qz17 : V8) (bz16 : Bool), a_ = fr (rcV r A c :: .pointer (some ⟨g5, 0, none⟩) :: .bool false :: undef :: .pointer (some ⟨g5, 0, none⟩) :: .int .u32 r.e :: .bool bz12 :: .bool bz12 :: V8.l qz17 (.bool bz16 :: U16k1 (U4k1 (undef :: undef :: undef :: [])))) ∧ bz16 = (bz13 && (decide (r.b ≤ 1073741824))) ∧ St w (fun _ => False) w_ ([blk g5 (.int .u32 r.e :: .bool r.p :: .int .u32 r.b :: .int .u32 r.q :: .int .i64 r.l :: .int .u32 r.xe :: .int .u32 r.xq :: .slice A r.sn.length c :: .int .u64 r.s :: .int .u32 r.te :: .int .u32 r.tq :: .int .u32 r.be :: .int .u32 r.bq :: .int .i64 r.nx :: .int .i64 r.tt :: .int .i64 r.rt :: []) 34])) (fun T18 => ?_) ?_
    · cases bz13
      · skip
        refine p_off (by rw [hops10]; rfl) rfl ?_
        refine p_off (by rw [hops10]; rfl) rfl ?_
        refine p_off (by rw [hops10]; rfl) rfl ?_
        refine p_run _ (x_pick false (undef) (.bool false) (.bool false) rfl rfl rfl rfl rfl) rfl ?_
        exact T18 _ _ ⟨⟨uz8, uz9, uz10, .bool false, .bool false, undef, undef, undef⟩, false, rfl, rfl, HS⟩
      · skip
        refine p_on rfl (by rw [hops10]; rfl) ?_
        refine p_run _ (x_field (j := 2) _ _ rfl rfl Try.underlying34 rfl (by rfl) rfl) rfl ?_
        refine p_on rfl (by rw [hops10]; rfl) ?_
        refine p_run _ (x_load (.int .u32 r.b) rfl rfl (bkCell (HS.get (.head _)) 2 _ rfl) (by rfl)) rfl ?_
        refine p_on rfl (by rw [hops10]; rfl) ?_
        refine p_run _ (x_cmp (k := .u32) (m := r.b) (n := 1073741824) .leq (decide (r.b ≤ 1073741824)) rfl rfl rfl rfl rfl) rfl ?_
        refine p_run _ (x_pick true (.bool (decide (r.b ≤ 1073741824))) (.bool false) (.bool (decide (r.b ≤ 1073741824))) rfl rfl rfl rfl rfl) rfl ?_
        exact T18 _ _ ⟨⟨uz8, uz9, uz10, .bool true, .bool true, .pointer (some ⟨g5, 2, none⟩), .int .u32 r.b, .bool (decide (r.b ≤ 1073741824))⟩, (decide (r.b ≤ 1073741824)), rfl, rfl, HS⟩
    clear HS
    rintro _ w_ ⟨qz17, bz16, rfl, hbz16, HS⟩
    skip
    refine p_run _ (x_move (.bool bz16) rfl rfl) rfl ?_
    refine p_tail 4 (fun a_ w_ => ∃ (uz18 uz19 uz20 : Value) (bz20 : Bool), a_ = fr (rcV r A c :: .pointer (some ⟨g5, 0, none⟩) :: .bool false :: undef :: .pointer (some ⟨g5, 0, none⟩) :: .int .u32 r.e :: .bool bz12 :: .bool bz12 :: V8.l qz17 (.bool bz16 :: .bool bz16 :: uz18 :: uz19 :: uz20 :: .bool bz20 :: U16k1 (undef :: undef :: []))) ∧ bz20 = (bz16 && (decide (r.q ≤ 1048576))) ∧ St w (fun _ => False) w_ ([blk g5 (.int .u32 r.e :: .bool r.p :: .int .u32 r.b :: .int .u32 r.q :: .int .i64 r.l :: .int .u32 r.xe :: .int .u32 r.xq :: .slice A r.sn.length c :: .int .u64 r.s :: .int .u32 r.te :: .int .u32 r.tq :: .int .u32 r.be :: .int .u32 r.bq :: .int .i64 r.nx :: .int .i64 r.tt :: .int .i64 r.rt :: []) 34])) (fun T21 => ?_) ?_
    · cases bz16
      · skip
        refine p_off (by rw [hops10]; rfl) rfl ?_
        refine p_off (by rw [hops10]; rfl) rfl ?_
        refine p_off (by rw [hops10]; rfl) rfl ?_
        refine p_run _ (x_pick false (undef) (.bool false) (.bool false) rfl rfl rfl rfl rfl) rfl ?_
        exact T21 _ _ ⟨undef, undef, undef, false, rfl, rfl, HS⟩
      · skip
        refine p_on rfl (by rw [hops10]; rfl) ?_
        refine p_run _ (x_field (j := 3) _ _ rfl rfl Try.underlying34 rfl (by rfl) rfl) rfl ?_
        refine p_on rfl (by rw [hops10]; rfl) ?_
        refine p_run _ (x_load (.int .u32 r.q) rfl rfl (bkCell (HS.get (.head _)) 3 _ rfl) (by rfl)) rfl ?_
        refine p_on rfl (by rw [hops10]; rfl) ?_
        refine p_run _ (x_cmp (k := .u32) (m := r.q) (n := 1048576) .leq (decide (r.q ≤ 1048576)) rfl rfl rfl rfl rfl) rfl ?_
        refine p_run _ (x_pick true (.bool (decide (r.q ≤ 1048576))) (.bool false) (.bool (decide (r.q ≤ 1048576))) rfl rfl rfl rfl rfl) rfl ?_
        exact T21 _ _ ⟨(.pointer (some ⟨g5, 3, none⟩)), (.int .u32 r.q), (.bool (decide (r.q ≤ 1048576))), (decide (r.q ≤ 1048576)), rfl, rfl, HS⟩
    clear HS
    rintro _ w_ ⟨uz18, uz19, uz20, bz20, rfl, hbz20, HS⟩
    skip
    refine p_run _ (x_assign (.bool bz20) rfl rfl) rfl ?_
    clear hops10
    refine wpList_nil ?_
    refine hK9 _ _ ?_
    refine wp_seq_k (fun K23 hK24 => ?_)
    refine c_region (fun ops26 hops25 => ?_)
    refine p_run _ (x_move (.bool bz20) rfl rfl) rfl ?_
    refine p_run _ (x_move (.bool bz20) rfl rfl) rfl ?_
    refine p_tail 4 (fun a_ w_ => ∃ (uz24 uz25 uz26 : Value) (qz28 : V8) (bz27 : Bool), a_ = fr (rcV r A c :: .pointer (some ⟨g5, 0, none⟩) :: .bool false :: .bool bz20 :: .pointer (some ⟨g5, 0, none⟩) :: .int .u32 r.e :: .bool bz12 :: .bool bz12 :: V8.l qz17 (V8.l qz28 (uz24 :: uz25 :: uz26 :: .bool bz27 :: U8k1 (U4k1 ([]))))) ∧ bz27 = (bz20 && (rtOk r.l)) ∧ St w (fun _ => False) w_ ([blk g5 (.int .u32 r.e :: .bool r.p :: .int .u32 r.b :: .int .u32 r.q :: .int .i64 r.l :: .int .u32 r.xe :: .int .u32 r.xq :: .slice A r.sn.length c :: .int .u64 r.s :: .int .u32 r.te :: .int .u32 r.tq :: .int .u32 r.be :: .int .u32 r.bq :: .int .i64 r.nx :: .int .i64 r.tt :: .int .i64 r.rt :: []) 34])) (fun T29 => ?_) ?_
    · cases bz20
      · skip
        refine p_off (by rw [hops25]; rfl) rfl ?_
        refine p_off (by rw [hops25]; rfl) rfl ?_
        refine p_off (by rw [hops25]; rfl) rfl ?_
        refine p_run _ (x_pick false (undef) (.bool false) (.bool false) rfl rfl rfl rfl rfl) rfl ?_
        exact T29 _ _ ⟨undef, undef, undef, ⟨.bool bz16, .bool bz16, uz18, uz19, uz20, .bool false, .bool false, .bool false⟩, false, rfl, rfl, HS⟩
      · skip
        refine p_on rfl (by rw [hops25]; rfl) ?_
        refine p_run _ (x_field (j := 4) _ _ rfl rfl Try.underlying34 rfl (by rfl) rfl) rfl ?_
        refine p_on rfl (by rw [hops25]; rfl) ?_
        refine p_run _ (x_load (.int .i64 r.l) rfl rfl (bkCell (HS.get (.head _)) 4 _ rfl) (by rfl)) rfl ?_
        refine p_on rfl (by rw [hops25]; rfl) ?_
        refine w_call [.int .i64 r.l] Try.func33 (by kernel_rfl) (by rfl) rfl ?_
        refine (root_any _ r.l).mono ?_
        rintro e w30 ⟨rfl, hb_⟩
        replace HS := HS.here hb_
        clear hb_
        refine ⟨_, rfl, ?_⟩
        refine p_run _ (x_pick true (.bool (rtOk r.l)) (.bool false) (.bool (rtOk r.l)) rfl rfl rfl rfl rfl) rfl ?_
        exact T29 _ _ ⟨(.pointer (some ⟨g5, 4, none⟩)), (.int .i64 r.l), (.bool (rtOk r.l)), ⟨.bool bz16, .bool bz16, uz18, uz19, uz20, .bool true, .bool true, .bool true⟩, (rtOk r.l), rfl, rfl, HS⟩
    clear HS
    rintro _ w_ ⟨uz24, uz25, uz26, qz28, bz27, rfl, hbz27, HS⟩
    skip
    refine p_run _ (x_move (.bool bz27) rfl rfl) rfl ?_
    refine p_tail 6 (fun a_ w_ => ∃ (uz32 uz33 : Value) (qz33 : V8) (bz32 : Bool), a_ = fr (rcV r A c :: .pointer (some ⟨g5, 0, none⟩) :: .bool false :: .bool bz20 :: .pointer (some ⟨g5, 0, none⟩) :: .int .u32 r.e :: .bool bz12 :: .bool bz12 :: V8.l qz17 (V8.l qz28 (V8.l qz33 (uz32 :: uz33 :: .bool bz32 :: U4k1 (undef :: []))))) ∧ bz32 = (bz27 && (snsOk r.xe r.xq r.sn)) ∧ St w (fun _ => False) w_ ([blk g5 (.int .u32 r.e :: .bool r.p :: .int .u32 r.b :: .int .u32 r.q :: .int .i64 r.l :: .int .u32 r.xe :: .int .u32 r.xq :: .slice A r.sn.length c :: .int .u64 r.s :: .int .u32 r.te :: .int .u32 r.tq :: .int .u32 r.be :: .int .u32 r.bq :: .int .i64 r.nx :: .int .i64 r.tt :: .int .i64 r.rt :: []) 34])) (fun T34 => ?_) ?_
    · cases bz27
      · skip
        refine p_off (by rw [hops25]; rfl) rfl ?_
        refine p_off (by rw [hops25]; rfl) rfl ?_
        refine p_off (by rw [hops25]; rfl) rfl ?_
        refine p_off (by rw [hops25]; rfl) rfl ?_
        refine p_off (by rw [hops25]; rfl) rfl ?_
        refine p_run _ (x_pick false (undef) (.bool false) (.bool false) rfl rfl rfl rfl rfl) rfl ?_
        exact T34 _ _ ⟨undef, undef, ⟨uz24, uz25, uz26, .bool false, .bool false, undef, undef, undef⟩, false, rfl, rfl, HS⟩
      · skip
        refine p_on rfl (by rw [hops25]; rfl) ?_
        refine p_run _ (x_field (j := 7) _ _ rfl rfl Try.underlying34 rfl (by rfl) rfl) rfl ?_
        refine p_on rfl (by rw [hops25]; rfl) ?_
        refine p_run _ (x_load (.slice A r.sn.length c) rfl rfl (bkCell (HS.get (.head _)) 7 _ rfl) (by rfl)) rfl ?_
        refine p_on rfl (by rw [hops25]; rfl) ?_
        refine p_run _ (x_field (j := 5) _ _ rfl rfl Try.underlying34 rfl (by rfl) rfl) rfl ?_
        refine p_on rfl (by rw [hops25]; rfl) ?_
        refine p_run _ (x_loads [.int .u32 r.xe, .int .u32 r.xq] 2 rfl rfl (bkCells (HS.get (.head _)) 5 _ rfl) (by rfl) (by kernel_rfl) rfl) rfl ?_
        refine p_on rfl (by rw [hops25]; rfl) ?_
        refine w_call [.slice A r.sn.length c, .agg ([.int .u32 r.xe, .int .u32 r.xq] : List Value).toArray] Try.func34 (by kernel_rfl) (by rfl) rfl ?_
        refine (snaps_any _ A c r.sn (Kd.C_below hA HS.belowOf) hl r.xe r.xq).mono ?_
        rintro e w35 ⟨rfl, hb_⟩
        replace HS := HS.here hb_
        clear hb_
        refine ⟨_, rfl, ?_⟩
        refine p_run _ (x_pick true (.bool (snsOk r.xe r.xq r.sn)) (.bool false) (.bool (snsOk r.xe r.xq r.sn)) rfl rfl rfl rfl rfl) rfl ?_
        exact T34 _ _ ⟨(.agg ([.int .u32 r.xe, .int .u32 r.xq] : List Value).toArray), (.bool (snsOk r.xe r.xq r.sn)), ⟨uz24, uz25, uz26, .bool true, .bool true, .pointer (some ⟨g5, 7, none⟩), .slice A r.sn.length c, .pointer (some ⟨g5, 5, none⟩)⟩, (snsOk r.xe r.xq r.sn), rfl, rfl, HS⟩
    clear HS
    rintro _ w_ ⟨uz32, uz33, qz33, bz32, rfl, hbz32, HS⟩
    skip
    refine p_run _ (x_move (.bool bz32) rfl rfl) rfl ?_
    refine p_tail 4 (fun a_ w_ => ∃ (uz36 uz37 uz38 : Value) (bz37 : Bool), a_ = fr (rcV r A c :: .pointer (some ⟨g5, 0, none⟩) :: .bool false :: .bool bz20 :: .pointer (some ⟨g5, 0, none⟩) :: .int .u32 r.e :: .bool bz12 :: .bool bz12 :: V8.l qz17 (V8.l qz28 (V8.l qz33 (uz32 :: uz33 :: .bool bz32 :: .bool bz32 :: uz36 :: uz37 :: uz38 :: .bool bz37 :: [])))) ∧ bz37 = (bz32 && (sgOk r.s r.te r.tq r.be r.bq r.nx r.tt r.rt)) ∧ St w (fun _ => False) w_ ([blk g5 (.int .u32 r.e :: .bool r.p :: .int .u32 r.b :: .int .u32 r.q :: .int .i64 r.l :: .int .u32 r.xe :: .int .u32 r.xq :: .slice A r.sn.length c :: .int .u64 r.s :: .int .u32 r.te :: .int .u32 r.tq :: .int .u32 r.be :: .int .u32 r.bq :: .int .i64 r.nx :: .int .i64 r.tt :: .int .i64 r.rt :: []) 34])) (fun T38 => ?_) ?_
    · cases bz32
      · skip
        refine p_off (by rw [hops25]; rfl) rfl ?_
        refine p_off (by rw [hops25]; rfl) rfl ?_
        refine p_off (by rw [hops25]; rfl) rfl ?_
        refine p_run _ (x_pick false (undef) (.bool false) (.bool false) rfl rfl rfl rfl rfl) rfl ?_
        exact T38 _ _ ⟨undef, undef, undef, false, rfl, rfl, HS⟩
      · skip
        refine p_on rfl (by rw [hops25]; rfl) ?_
        refine p_run _ (x_field (j := 8) _ _ rfl rfl Try.underlying34 rfl (by rfl) rfl) rfl ?_
        refine p_on rfl (by rw [hops25]; rfl) ?_
        refine p_run _ (x_loads [.int .u64 r.s, .int .u32 r.te, .int .u32 r.tq, .int .u32 r.be, .int .u32 r.bq, .int .i64 r.nx, .int .i64 r.tt, .int .i64 r.rt] 8 rfl rfl (bkCells (HS.get (.head _)) 8 _ rfl) (by rfl) (by kernel_rfl) rfl) rfl ?_
        refine p_on rfl (by rw [hops25]; rfl) ?_
        refine w_call [.agg ([.int .u64 r.s, .int .u32 r.te, .int .u32 r.tq, .int .u32 r.be, .int .u32 r.bq, .int .i64 r.nx, .int .i64 r.tt, .int .i64 r.rt] : List Value).toArray] Try.func35 (by kernel_rfl) (by rfl) rfl ?_
        refine (stage_any _ r.s r.te r.tq r.be r.bq r.nx r.tt r.rt).mono ?_
        rintro e w39 ⟨rfl, hb_⟩
        replace HS := HS.here hb_
        clear hb_
        refine ⟨_, rfl, ?_⟩
        refine p_run _ (x_pick true (.bool (sgOk r.s r.te r.tq r.be r.bq r.nx r.tt r.rt)) (.bool false) (.bool (sgOk r.s r.te r.tq r.be r.bq r.nx r.tt r.rt)) rfl rfl rfl rfl rfl) rfl ?_
        exact T38 _ _ ⟨(.pointer (some ⟨g5, 8, none⟩)), (.agg ([.int .u64 r.s, .int .u32 r.te, .int .u32 r.tq, .int .u32 r.be, .int .u32 r.bq, .int .i64 r.nx, .int .i64 r.tt, .int .i64 r.rt] : List Value).toArray), (.bool (sgOk r.s r.te r.tq r.be r.bq r.nx r.tt r.rt)), (sgOk r.s r.te r.tq r.be r.bq r.nx r.tt r.rt), rfl, rfl, HS⟩
    clear HS
    rintro _ w_ ⟨uz36, uz37, uz38, bz37, rfl, hbz37, HS⟩
    skip
    refine p_run _ (x_assign (.bool bz37) rfl rfl) rfl ?_
    clear hops25
    refine wpList_nil ?_
    refine hK24 _ _ ?_
    refine wp_ret ?_
    try simp only [Exit.inBlock, Exit.then]
    refine c_ret (.bool bz37) (r_tmp rfl rfl) ?_
    have e1 : rcOk r = bz37 := by unfold rcOk nmRc; rw [hbz37, hbz32, hbz27, hbz20, hbz16, hbz13, hbz12]
    rw [e1]
    exact ⟨rfl, HS.belowOf⟩
set_option maxRecDepth 10000 in
set_option maxHeartbeats 1000000 in
theorem sns_equal (w : World) (A : Option Addr) (c : Nat) (es : List Sn) (hr : kSn.C w A es.length es) (B : Option Addr) (d : Nat) (fs : List Sn) (hr2 : kSn.C w B fs.length fs) (hl : es.length ≤ 1000) (hl2 : fs.length ≤ 1000) : Calls Try.prog 36 #[.slice A es.length c, .slice B fs.length d] w fun e w' => e = .returned (.bool (decide (es = fs))) ∧ Below w.heap.size w w' := by
  have HS := St.empty w
  by_cases hln : es.length = fs.length
  · skip
    refine c_enter Try.func36 rfl 26 rfl (.slice A es.length c :: .slice B fs.length d :: U16k1 (U8k1 ([]))) rfl ?_
    refine wp_seq_k (fun K1 hK2 => ?_)
    refine c_region (fun ops4 hops3 => ?_)
    clear hops3
    refine p_run _ (x_assign (.bool false) rfl rfl) rfl ?_
    refine wpList_nil ?_
    refine hK2 _ _ ?_
    refine wp_seq_k (fun K5 hK6 => ?_)
    refine wp_seq_k (fun K7 hK8 => ?_)
    refine c_region (fun ops10 hops9 => ?_)
    clear hops9
    refine p_run _ (x_move (.slice A es.length c) rfl rfl) rfl ?_
    refine p_run _ (x_len rfl rfl Try.underlying29) rfl ?_
    refine p_run _ (x_move (.slice B fs.length d) rfl rfl) rfl ?_
    refine p_run _ (x_len rfl rfl Try.underlying29) rfl ?_
    refine p_run _ (x_cmp (k := .i64) (m := (es.length : Int)) (n := (fs.length : Int)) .neq false rfl rfl rfl (eqI (by omega)) rfl) rfl ?_
    refine wpList_nil ?_
    refine fr_at (l' := (.slice A es.length c :: .slice B fs.length d :: undef :: undef :: .bool false :: undef :: .slice A es.length c :: .int .i64 (es.length : Int) :: .slice B fs.length d :: .int .i64 (fs.length : Int) :: .bool false :: U8k1 (U4k1 (undef :: undef :: undef :: [])))) rfl ?_
    refine hK8 _ _ ?_
    refine c_false rfl ?_
    refine wp_skip ?_
    refine hK6 _ _ ?_
    refine wp_seq_k (fun K11 hK12 => ?_)
    refine wp_seq_k (fun K13 hK14 => ?_)
    refine c_region (fun ops16 hops15 => ?_)
    clear hops15
    refine p_run _ (x_move (.slice A es.length c) rfl rfl) rfl ?_
    refine p_run _ (x_len rfl rfl Try.underlying29) rfl ?_
    refine p_run _ (x_move (.int .i64 0) rfl rfl) rfl ?_
    refine wpList_nil ?_
    refine fr_at (l' := (.slice A es.length c :: .slice B fs.length d :: undef :: undef :: .bool false :: undef :: .slice A es.length c :: .int .i64 (es.length : Int) :: .slice B fs.length d :: .int .i64 (fs.length : Int) :: .bool false :: .slice A es.length c :: .int .i64 (es.length : Int) :: .int .i64 0 :: U8k1 (U4k1 ([])))) rfl ?_
    refine hK14 _ _ ?_
    refine wp_block ?_
    refine c_loop (ι := Nat) (fun i_ a_ w_ => match i_ with | j => ∃ (u4 : Value) (u5 : Value) (u14 : Value) (u15 : Value) (u16 : Value) (u17 : Value) (u18 : Value) (u19 : Value) (u20 : Value) (u21 : Value) (u22 : Value) (u23 : Value) (u24 : Value) (u25 : Value), a_ = fr (.slice A es.length c :: .slice B fs.length d :: undef :: undef :: u4 :: u5 :: .slice A es.length c :: .int .i64 (es.length : Int) :: .slice B fs.length d :: .int .i64 (fs.length : Int) :: .bool false :: .slice A es.length c :: .int .i64 (es.length : Int) :: .int .i64 (j : Int) :: u14 :: u15 :: u16 :: u17 :: u18 :: u19 :: u20 :: u21 :: u22 :: u23 :: u24 :: u25 :: []) ∧ St w (fun _ => False) w_ ([]) ∧ (j ≤ es.length ∧ es.take j = fs.take j)) (fun i_ => match i_ with | j => es.length - j) 0 ?_ ?_
    · exact ⟨_, _, _, _, _, _, _, _, _, _, _, _, _, _, rfl, HS, ⟨by omega, rfl⟩⟩
    · clear HS
      rintro j a_ w19 ⟨u4, u5, u14, u15, u16, u17, u18, u19, u20, u21, u22, u23, u24, u25, rfl, HS, hI⟩ J17 hJ18
      have hjl := hI.1
      refine wp_seq_k (fun K20 hK21 => ?_)
      refine c_region (fun ops23 hops22 => ?_)
      clear hops22
      refine p_run _ (x_cmp (k := .i64) (m := (j : Int)) (n := (es.length : Int)) .lss (decide ((j : Int) < (es.length : Int))) rfl rfl rfl rfl rfl) rfl ?_
      refine wpList_nil ?_
      refine hK21 _ _ ?_
      refine wp_seq_k (fun K24 hK25 => ?_)
      refine c_cond (t := decide ((j : Int) < (es.length : Int))) rfl (fun hc26 => ?_) (fun hc26 => ?_)
      · have hlt : j < es.length := by have := of_decide_eq_true hc26; omega
        obtain ⟨ad, x, rfl, hx, -⟩ := sn_get (Kd.C_below hr HS.belowOf) j hlt
        obtain ⟨ae, y, rfl, hy, -⟩ := sn_get (Kd.C_below hr2 HS.belowOf) j (by omega)
        refine wp_skip ?_
        refine hK25 _ _ ?_
        refine wp_seq_k (fun K27 hK28 => ?_)
        refine wp_block ?_
        refine wp_seq_k (fun K29 hK30 => ?_)
        refine c_region (fun ops32 hops31 => ?_)
        clear hops31
        refine p_run _ (x_move (.int .i64 (j : Int)) rfl rfl) rfl ?_
        refine p_run _ (x_assign (.int .i64 (j : Int)) rfl rfl) rfl ?_
        refine wpList_nil ?_
        refine hK30 _ _ ?_
        refine wp_seq_k (fun K33 hK34 => ?_)
        by_cases hxy : x = y
        · skip
          refine free_frame (n := 9) (T := _) [0, 0, 3, 7, 0, 0, 48, 112, 255] [(0, 16), (1, 17), (2, 18), (3, 19), (4, 20), (5, 21), (6, 22), (7, 23), (8, 24)] (fun bq_ vq_ w_ => qv ((fun i_ => match i_ with | 0 => some (.slice (some ad) es.length c) | 1 => some (.int .i64 (j : Int)) | 2 => some (.pointer (some ((ad).add (j * 4)))) | 3 => some (.agg ([.int .u32 x.1, .int .u32 x.2.1, .int .i64 x.2.2.1, .int .u32 x.2.2.2] : List Value).toArray) | 4 => some (.slice (some ae) fs.length d) | 5 => some (.int .i64 (j : Int)) | 6 => some (.pointer (some ((ae).add (j * 4)))) | 7 => some (.agg ([.int .u32 y.1, .int .u32 y.2.1, .int .i64 y.2.2.1, .int .u32 y.2.2.2] : List Value).toArray) | 8 => some (.bool false) | _ => none) : Nat → Option Value) bq_ vq_ ∧ (St w (fun _ => False) w_ ([]))) (by kernel_rfl) rfl rfl (by kernel_rfl) (by kernel_rfl) rfl (by kernel_rfl) (by kernel_rfl) ⟨qv_none, HS.draw⟩ ?_ ?_
          · clear HS
            intro i_ hi_ bq_ vq_ a_ w_ hG hb_ hon hoff hfr hel hval
            obtain ⟨hV, hE⟩ := hG
            have hi_ := List.mem_range.1 hi_
            obtain ⟨l_, rfl⟩ := hfr
            have hv_ := fun (j t : Nat) (v : Value) (h1 : (j, t) ∈ [(0, 16), (1, 17), (2, 18), (3, 19), (4, 20), (5, 21), (6, 22), (7, 23), (8, 24)]) h2 h3 => (hval (j, t) h1 h3).trans (congrArg some (hV j v h2 h3))
            have hcs : i_ = 0 ∨ i_ = 1 ∨ i_ = 2 ∨ i_ = 3 ∨ i_ = 4 ∨ i_ = 5 ∨ i_ = 6 ∨ i_ = 7 ∨ i_ = 8 := by omega
            rcases hcs with rfl | rfl | rfl | rfl | rfl | rfl | rfl | rfl | rfl
            · have e0 : evl l_ (.tmp 0) = .slice (some ad) es.length c := evl_of ((hel 0 (by decide)).trans rfl)
              exact ⟨_, rfl, fun K_ hK_ => q_op _ (x_move (.slice (some ad) es.length c) rfl e0) (hK_ _ _ ⟨qv_up hV (fun _ h => Option.some.inj h), hE⟩)⟩
            · have e5 : evl l_ (.tmp 5) = .int .i64 (j : Int) := evl_of ((hel 5 (by decide)).trans rfl)
              exact ⟨_, rfl, fun K_ hK_ => q_op _ (x_move (.int .i64 (j : Int)) rfl e5) (hK_ _ _ ⟨qv_up hV (fun _ h => Option.some.inj h), hE⟩)⟩
            · have e16 : evl l_ (.tmp 16) = .slice (some ad) es.length c := evl_of (hv_ 0 16 _ (by decide) rfl (hon 0 (by decide)))
              have e17 : evl l_ (.tmp 17) = .int .i64 (j : Int) := evl_of (hv_ 1 17 _ (by decide) rfl (hon 1 (by decide)))
              exact ⟨_, rfl, fun K_ hK_ => q_op _ (x_index (A := ad) (j := j * 4) (sz := 4) rfl e16 e17 Try.underlying29 (by kernel_rfl) (by omega) rfl) (hK_ _ _ ⟨qv_up hV (fun _ h => Option.some.inj h), hE⟩)⟩
            · have hE0 := hE
              have HS := hE0
              have e18 : evl l_ (.tmp 18) = .pointer (some ((ad).add (j * 4))) := evl_of (hv_ 2 18 _ (by decide) rfl (hon 2 (by decide)))
              exact ⟨_, rfl, fun K_ hK_ => q_op _ (x_loads [.int .u32 x.1, .int .u32 x.2.1, .int .i64 x.2.2.1, .int .u32 x.2.2.2] 4 rfl e18 (sn_cells (Kd.C_below hr HS.belowOf) hx) (by rfl) (by kernel_rfl) rfl) (hK_ _ _ ⟨qv_up hV (fun _ h => Option.some.inj h), hE⟩)⟩
            · have e1 : evl l_ (.tmp 1) = .slice (some ae) fs.length d := evl_of ((hel 1 (by decide)).trans rfl)
              exact ⟨_, rfl, fun K_ hK_ => q_op _ (x_move (.slice (some ae) fs.length d) rfl e1) (hK_ _ _ ⟨qv_up hV (fun _ h => Option.some.inj h), hE⟩)⟩
            · have e5 : evl l_ (.tmp 5) = .int .i64 (j : Int) := evl_of ((hel 5 (by decide)).trans rfl)
              exact ⟨_, rfl, fun K_ hK_ => q_op _ (x_move (.int .i64 (j : Int)) rfl e5) (hK_ _ _ ⟨qv_up hV (fun _ h => Option.some.inj h), hE⟩)⟩
            · have e20 : evl l_ (.tmp 20) = .slice (some ae) fs.length d := evl_of (hv_ 4 20 _ (by decide) rfl (hon 4 (by decide)))
              have e21 : evl l_ (.tmp 21) = .int .i64 (j : Int) := evl_of (hv_ 5 21 _ (by decide) rfl (hon 5 (by decide)))
              exact ⟨_, rfl, fun K_ hK_ => q_op _ (x_index (A := ae) (j := j * 4) (sz := 4) rfl e20 e21 Try.underlying29 (by kernel_rfl) (by omega) rfl) (hK_ _ _ ⟨qv_up hV (fun _ h => Option.some.inj h), hE⟩)⟩
            · have hE0 := hE
              have HS := hE0
              have e22 : evl l_ (.tmp 22) = .pointer (some ((ae).add (j * 4))) := evl_of (hv_ 6 22 _ (by decide) rfl (hon 6 (by decide)))
              exact ⟨_, rfl, fun K_ hK_ => q_op _ (x_loads [.int .u32 y.1, .int .u32 y.2.1, .int .i64 y.2.2.1, .int .u32 y.2.2.2] 4 rfl e22 (sn_cells (Kd.C_below hr2 HS.belowOf) hy) (by rfl) (by kernel_rfl) rfl) (hK_ _ _ ⟨qv_up hV (fun _ h => Option.some.inj h), hE⟩)⟩
            · have hE0 := hE
              have HS := hE0
              have e19 : evl l_ (.tmp 19) = .agg ([.int .u32 x.1, .int .u32 x.2.1, .int .i64 x.2.2.1, .int .u32 x.2.2.2] : List Value).toArray := evl_of (hv_ 3 19 _ (by decide) rfl (hon 3 (by decide)))
              have e23 : evl l_ (.tmp 23) = .agg ([.int .u32 y.1, .int .u32 y.2.1, .int .i64 y.2.2.1, .int .u32 y.2.2.2] : List Value).toArray := evl_of (hv_ 7 23 _ (by decide) rfl (hon 7 (by decide)))
              exact ⟨_, rfl, fun K_ hK_ => q_op _ (x_eq .neq (.agg ([.int .u32 x.1, .int .u32 x.2.1, .int .i64 x.2.2.1, .int .u32 x.2.2.2] : List Value).toArray) (.agg ([.int .u32 y.1, .int .u32 y.2.1, .int .i64 y.2.2.1, .int .u32 y.2.2.2] : List Value).toArray) (decide (x = y)) false rfl e19 e23 (equal_sn _ x y) (by rw [decide_eq_true hxy]; rfl) rfl (guard_agg (by kernel_rfl)) (guard_agg (by kernel_rfl))) (hK_ _ _ ⟨qv_up hV (fun _ h => Option.some.inj h), hE⟩)⟩
          intro bq_ vq_ w_ hall hG
          obtain ⟨hV, hE⟩ := hG
          clear HS
          have HS := hE
          have hv0 := hV 0 _ rfl (hall 0 (by decide))
          have hv1 := hV 1 _ rfl (hall 1 (by decide))
          have hv2 := hV 2 _ rfl (hall 2 (by decide))
          have hv3 := hV 3 _ rfl (hall 3 (by decide))
          have hv4 := hV 4 _ rfl (hall 4 (by decide))
          have hv5 := hV 5 _ rfl (hall 5 (by decide))
          have hv6 := hV 6 _ rfl (hall 6 (by decide))
          have hv7 := hV 7 _ rfl (hall 7 (by decide))
          have hv8 := hV 8 _ rfl (hall 8 (by decide))
          clear hV hall
          rw [putSel_fr]
          simp only [tells, List.map_cons, List.map_nil, setAll, List.set_cons_succ, List.set_cons_zero, hv0, hv1, hv2, hv3, hv4, hv5, hv6, hv7, hv8]
          clear hv0 hv1 hv2 hv3 hv4 hv5 hv6 hv7 hv8
          generalize w_ = w900801 at HS ⊢
          refine fr_at (l' := (.slice (some ad) es.length c :: .slice (some ae) fs.length d :: undef :: undef :: u4 :: .int .i64 (j : Int) :: .slice (some ad) es.length c :: .int .i64 (es.length : Int) :: .slice (some ae) fs.length d :: .int .i64 (fs.length : Int) :: .bool false :: .slice (some ad) es.length c :: .int .i64 (es.length : Int) :: .int .i64 (j : Int) :: .bool (decide ((j : Int) < (es.length : Int))) :: .int .i64 (j : Int) :: .slice (some ad) es.length c :: .int .i64 (j : Int) :: .pointer (some ((ad).add (j * 4))) :: .agg ([.int .u32 x.1, .int .u32 x.2.1, .int .i64 x.2.2.1, .int .u32 x.2.2.2] : List Value).toArray :: .slice (some ae) fs.length d :: .int .i64 (j : Int) :: .pointer (some ((ae).add (j * 4))) :: .agg ([.int .u32 y.1, .int .u32 y.2.1, .int .i64 y.2.2.1, .int .u32 y.2.2.2] : List Value).toArray :: .bool false :: u25 :: [])) rfl ?_
          refine hK34 _ _ ?_
          refine c_false rfl ?_
          refine wp_skip ?_
          refine hK28 _ _ ?_
          refine c_region (fun ops900803 hops900802 => ?_)
          clear hops900802
          refine p_run _ (x_arith (k := .i64) (m := (j : Int)) (n := 1) .add (((j + 1 : Nat) : Int)) rfl rfl rfl (show IntKind.i64.wrap ((j : Int) + 1) = ((j + 1 : Nat) : Int) from ((wr64' (by omega)).trans (by omega))) rfl) rfl ?_
          refine p_run _ (x_move (.int .i64 ((j + 1 : Nat) : Int)) rfl rfl) rfl ?_
          refine wpList_nil ?_
          refine fr_at (l' := (.slice (some ad) es.length c :: .slice (some ae) fs.length d :: undef :: undef :: u4 :: .int .i64 (j : Int) :: .slice (some ad) es.length c :: .int .i64 (es.length : Int) :: .slice (some ae) fs.length d :: .int .i64 (fs.length : Int) :: .bool false :: .slice (some ad) es.length c :: .int .i64 (es.length : Int) :: .int .i64 ((j + 1 : Nat) : Int) :: .bool (decide ((j : Int) < (es.length : Int))) :: .int .i64 (j : Int) :: .slice (some ad) es.length c :: .int .i64 (j : Int) :: .pointer (some ((ad).add (j * 4))) :: .agg ([.int .u32 x.1, .int .u32 x.2.1, .int .i64 x.2.2.1, .int .u32 x.2.2.2] : List Value).toArray :: .slice (some ae) fs.length d :: .int .i64 (j : Int) :: .pointer (some ((ae).add (j * 4))) :: .agg ([.int .u32 y.1, .int .u32 y.2.1, .int .i64 y.2.2.1, .int .u32 y.2.2.2] : List Value).toArray :: .bool false :: .int .i64 ((j + 1 : Nat) : Int) :: [])) rfl ?_
          refine hJ18 (j + 1) _ _ ?_ ?_
          · show es.length - (j + 1) < es.length - j; omega
          · exact ⟨_, _, _, _, _, _, _, _, _, _, _, _, _, _, rfl, HS, ⟨(by omega), take_eq hI.2 hx hy hxy⟩⟩
        · skip
          refine free_frame (n := 9) (T := _) [0, 0, 3, 7, 0, 0, 48, 112, 255] [(0, 16), (1, 17), (2, 18), (3, 19), (4, 20), (5, 21), (6, 22), (7, 23), (8, 24)] (fun bq_ vq_ w_ => qv ((fun i_ => match i_ with | 0 => some (.slice (some ad) es.length c) | 1 => some (.int .i64 (j : Int)) | 2 => some (.pointer (some ((ad).add (j * 4)))) | 3 => some (.agg ([.int .u32 x.1, .int .u32 x.2.1, .int .i64 x.2.2.1, .int .u32 x.2.2.2] : List Value).toArray) | 4 => some (.slice (some ae) fs.length d) | 5 => some (.int .i64 (j : Int)) | 6 => some (.pointer (some ((ae).add (j * 4)))) | 7 => some (.agg ([.int .u32 y.1, .int .u32 y.2.1, .int .i64 y.2.2.1, .int .u32 y.2.2.2] : List Value).toArray) | 8 => some (.bool true) | _ => none) : Nat → Option Value) bq_ vq_ ∧ (St w (fun _ => False) w_ ([]))) (by kernel_rfl) rfl rfl (by kernel_rfl) (by kernel_rfl) rfl (by kernel_rfl) (by kernel_rfl) ⟨qv_none, HS.draw⟩ ?_ ?_
          · clear HS
            intro i_ hi_ bq_ vq_ a_ w_ hG hb_ hon hoff hfr hel hval
            obtain ⟨hV, hE⟩ := hG
            have hi_ := List.mem_range.1 hi_
            obtain ⟨l_, rfl⟩ := hfr
            have hv_ := fun (j t : Nat) (v : Value) (h1 : (j, t) ∈ [(0, 16), (1, 17), (2, 18), (3, 19), (4, 20), (5, 21), (6, 22), (7, 23), (8, 24)]) h2 h3 => (hval (j, t) h1 h3).trans (congrArg some (hV j v h2 h3))
            have hcs : i_ = 0 ∨ i_ = 1 ∨ i_ = 2 ∨ i_ = 3 ∨ i_ = 4 ∨ i_ = 5 ∨ i_ = 6 ∨ i_ = 7 ∨ i_ = 8 := by omega
            rcases hcs with rfl | rfl | rfl | rfl | rfl | rfl | rfl | rfl | rfl
            · have e0 : evl l_ (.tmp 0) = .slice (some ad) es.length c := evl_of ((hel 0 (by decide)).trans rfl)
              exact ⟨_, rfl, fun K_ hK_ => q_op _ (x_move (.slice (some ad) es.length c) rfl e0) (hK_ _ _ ⟨qv_up hV (fun _ h => Option.some.inj h), hE⟩)⟩
            · have e5 : evl l_ (.tmp 5) = .int .i64 (j : Int) := evl_of ((hel 5 (by decide)).trans rfl)
              exact ⟨_, rfl, fun K_ hK_ => q_op _ (x_move (.int .i64 (j : Int)) rfl e5) (hK_ _ _ ⟨qv_up hV (fun _ h => Option.some.inj h), hE⟩)⟩
            · have e16 : evl l_ (.tmp 16) = .slice (some ad) es.length c := evl_of (hv_ 0 16 _ (by decide) rfl (hon 0 (by decide)))
              have e17 : evl l_ (.tmp 17) = .int .i64 (j : Int) := evl_of (hv_ 1 17 _ (by decide) rfl (hon 1 (by decide)))
              exact ⟨_, rfl, fun K_ hK_ => q_op _ (x_index (A := ad) (j := j * 4) (sz := 4) rfl e16 e17 Try.underlying29 (by kernel_rfl) (by omega) rfl) (hK_ _ _ ⟨qv_up hV (fun _ h => Option.some.inj h), hE⟩)⟩
            · have hE0 := hE
              have HS := hE0
              have e18 : evl l_ (.tmp 18) = .pointer (some ((ad).add (j * 4))) := evl_of (hv_ 2 18 _ (by decide) rfl (hon 2 (by decide)))
              exact ⟨_, rfl, fun K_ hK_ => q_op _ (x_loads [.int .u32 x.1, .int .u32 x.2.1, .int .i64 x.2.2.1, .int .u32 x.2.2.2] 4 rfl e18 (sn_cells (Kd.C_below hr HS.belowOf) hx) (by rfl) (by kernel_rfl) rfl) (hK_ _ _ ⟨qv_up hV (fun _ h => Option.some.inj h), hE⟩)⟩
            · have e1 : evl l_ (.tmp 1) = .slice (some ae) fs.length d := evl_of ((hel 1 (by decide)).trans rfl)
              exact ⟨_, rfl, fun K_ hK_ => q_op _ (x_move (.slice (some ae) fs.length d) rfl e1) (hK_ _ _ ⟨qv_up hV (fun _ h => Option.some.inj h), hE⟩)⟩
            · have e5 : evl l_ (.tmp 5) = .int .i64 (j : Int) := evl_of ((hel 5 (by decide)).trans rfl)
              exact ⟨_, rfl, fun K_ hK_ => q_op _ (x_move (.int .i64 (j : Int)) rfl e5) (hK_ _ _ ⟨qv_up hV (fun _ h => Option.some.inj h), hE⟩)⟩
            · have e20 : evl l_ (.tmp 20) = .slice (some ae) fs.length d := evl_of (hv_ 4 20 _ (by decide) rfl (hon 4 (by decide)))
              have e21 : evl l_ (.tmp 21) = .int .i64 (j : Int) := evl_of (hv_ 5 21 _ (by decide) rfl (hon 5 (by decide)))
              exact ⟨_, rfl, fun K_ hK_ => q_op _ (x_index (A := ae) (j := j * 4) (sz := 4) rfl e20 e21 Try.underlying29 (by kernel_rfl) (by omega) rfl) (hK_ _ _ ⟨qv_up hV (fun _ h => Option.some.inj h), hE⟩)⟩
            · have hE0 := hE
              have HS := hE0
              have e22 : evl l_ (.tmp 22) = .pointer (some ((ae).add (j * 4))) := evl_of (hv_ 6 22 _ (by decide) rfl (hon 6 (by decide)))
              exact ⟨_, rfl, fun K_ hK_ => q_op _ (x_loads [.int .u32 y.1, .int .u32 y.2.1, .int .i64 y.2.2.1, .int .u32 y.2.2.2] 4 rfl e22 (sn_cells (Kd.C_below hr2 HS.belowOf) hy) (by rfl) (by kernel_rfl) rfl) (hK_ _ _ ⟨qv_up hV (fun _ h => Option.some.inj h), hE⟩)⟩
            · have hE0 := hE
              have HS := hE0
              have e19 : evl l_ (.tmp 19) = .agg ([.int .u32 x.1, .int .u32 x.2.1, .int .i64 x.2.2.1, .int .u32 x.2.2.2] : List Value).toArray := evl_of (hv_ 3 19 _ (by decide) rfl (hon 3 (by decide)))
              have e23 : evl l_ (.tmp 23) = .agg ([.int .u32 y.1, .int .u32 y.2.1, .int .i64 y.2.2.1, .int .u32 y.2.2.2] : List Value).toArray := evl_of (hv_ 7 23 _ (by decide) rfl (hon 7 (by decide)))
              exact ⟨_, rfl, fun K_ hK_ => q_op _ (x_eq .neq (.agg ([.int .u32 x.1, .int .u32 x.2.1, .int .i64 x.2.2.1, .int .u32 x.2.2.2] : List Value).toArray) (.agg ([.int .u32 y.1, .int .u32 y.2.1, .int .i64 y.2.2.1, .int .u32 y.2.2.2] : List Value).toArray) (decide (x = y)) true rfl e19 e23 (equal_sn _ x y) (by rw [decide_eq_false hxy]; rfl) rfl (guard_agg (by kernel_rfl)) (guard_agg (by kernel_rfl))) (hK_ _ _ ⟨qv_up hV (fun _ h => Option.some.inj h), hE⟩)⟩
          intro bq_ vq_ w_ hall hG
          obtain ⟨hV, hE⟩ := hG
          clear HS
          have HS := hE
          have hv0 := hV 0 _ rfl (hall 0 (by decide))
          have hv1 := hV 1 _ rfl (hall 1 (by decide))
          have hv2 := hV 2 _ rfl (hall 2 (by decide))
          have hv3 := hV 3 _ rfl (hall 3 (by decide))
          have hv4 := hV 4 _ rfl (hall 4 (by decide))
          have hv5 := hV 5 _ rfl (hall 5 (by decide))
          have hv6 := hV 6 _ rfl (hall 6 (by decide))
          have hv7 := hV 7 _ rfl (hall 7 (by decide))
          have hv8 := hV 8 _ rfl (hall 8 (by decide))
          clear hV hall
          rw [putSel_fr]
          simp only [tells, List.map_cons, List.map_nil, setAll, List.set_cons_succ, List.set_cons_zero, hv0, hv1, hv2, hv3, hv4, hv5, hv6, hv7, hv8]
          clear hv0 hv1 hv2 hv3 hv4 hv5 hv6 hv7 hv8
          generalize w_ = w900801 at HS ⊢
          refine fr_at (l' := (.slice (some ad) es.length c :: .slice (some ae) fs.length d :: undef :: undef :: u4 :: .int .i64 (j : Int) :: .slice (some ad) es.length c :: .int .i64 (es.length : Int) :: .slice (some ae) fs.length d :: .int .i64 (fs.length : Int) :: .bool false :: .slice (some ad) es.length c :: .int .i64 (es.length : Int) :: .int .i64 (j : Int) :: .bool (decide ((j : Int) < (es.length : Int))) :: .int .i64 (j : Int) :: .slice (some ad) es.length c :: .int .i64 (j : Int) :: .pointer (some ((ad).add (j * 4))) :: .agg ([.int .u32 x.1, .int .u32 x.2.1, .int .i64 x.2.2.1, .int .u32 x.2.2.2] : List Value).toArray :: .slice (some ae) fs.length d :: .int .i64 (j : Int) :: .pointer (some ((ae).add (j * 4))) :: .agg ([.int .u32 y.1, .int .u32 y.2.1, .int .i64 y.2.2.1, .int .u32 y.2.2.2] : List Value).toArray :: .bool true :: u25 :: [])) rfl ?_
          refine hK34 _ _ ?_
          refine c_true rfl ?_
          refine wp_seq_k (fun K900802 hK900803 => ?_)
          refine c_region (fun ops900805 hops900804 => ?_)
          clear hops900804
          refine p_run _ (x_assign (.bool false) rfl rfl) rfl ?_
          refine wpList_nil ?_
          refine hK900803 _ _ ?_
          refine wp_ret ?_
          try simp only [Exit.inBlock, Exit.then]
          refine c_ret (.bool false) (r_tmp rfl rfl) ?_
          have hne : decide (es = fs) = false := decide_eq_false (fun h => hxy (by rw [h, hy] at hx; injection hx with hx; exact hx.symm))
          rw [hne]
          exact ⟨rfl, HS.belowOf⟩
      · have hlt : j = es.length := by have := of_decide_eq_false hc26; omega
        subst hlt
        refine wp_exit ?_
        refine hK12 _ _ ?_
        refine wp_seq_k (fun K900806 hK900807 => ?_)
        refine c_region (fun ops900809 hops900808 => ?_)
        clear hops900808
        refine p_run _ (x_assign (.bool true) rfl rfl) rfl ?_
        refine wpList_nil ?_
        refine hK900807 _ _ ?_
        refine wp_ret ?_
        try simp only [Exit.inBlock, Exit.then]
        refine c_ret (.bool true) (r_tmp rfl rfl) ?_
        have hne : decide (es = fs) = true := decide_eq_true (by have h := hI.2; rw [List.take_length, hln, List.take_length] at h; exact h)
        rw [hne]
        exact ⟨rfl, HS.belowOf⟩
  · skip
    refine c_enter Try.func36 rfl 26 rfl (.slice A es.length c :: .slice B fs.length d :: U16k1 (U8k1 ([]))) rfl ?_
    refine wp_seq_k (fun K1 hK2 => ?_)
    refine c_region (fun ops4 hops3 => ?_)
    clear hops3
    refine p_run _ (x_assign (.bool false) rfl rfl) rfl ?_
    refine wpList_nil ?_
    refine hK2 _ _ ?_
    refine wp_seq_k (fun K5 hK6 => ?_)
    refine wp_seq_k (fun K7 hK8 => ?_)
    refine c_region (fun ops10 hops9 => ?_)
    clear hops9
    refine p_run _ (x_move (.slice A es.length c) rfl rfl) rfl ?_
    refine p_run _ (x_len rfl rfl Try.underlying29) rfl ?_
    refine p_run _ (x_move (.slice B fs.length d) rfl rfl) rfl ?_
    refine p_run _ (x_len rfl rfl Try.underlying29) rfl ?_
    refine p_run _ (x_cmp (k := .i64) (m := (es.length : Int)) (n := (fs.length : Int)) .neq true rfl rfl rfl (neqI (by omega)) rfl) rfl ?_
    refine wpList_nil ?_
    refine fr_at (l' := (.slice A es.length c :: .slice B fs.length d :: undef :: undef :: .bool false :: undef :: .slice A es.length c :: .int .i64 (es.length : Int) :: .slice B fs.length d :: .int .i64 (fs.length : Int) :: .bool true :: U8k1 (U4k1 (undef :: undef :: undef :: [])))) rfl ?_
    refine hK8 _ _ ?_
    refine c_true rfl ?_
    refine wp_seq_k (fun K11 hK12 => ?_)
    refine c_region (fun ops14 hops13 => ?_)
    clear hops13
    refine p_run _ (x_assign (.bool false) rfl rfl) rfl ?_
    refine wpList_nil ?_
    refine hK12 _ _ ?_
    refine wp_ret ?_
    try simp only [Exit.inBlock, Exit.then]
    refine c_ret (.bool false) (r_tmp rfl rfl) ?_
    have hne : decide (es = fs) = false := decide_eq_false (fun h => hln (by rw [h]))
    rw [hne]
    exact ⟨rfl, HS.belowOf⟩
set_option maxRecDepth 10000 in
set_option maxHeartbeats 4000000 in
theorem rsame_any (w : World) (r : Rc) (A : Option Addr) (c : Nat) (hA : kSn.C w A r.sn.length r.sn) (hl : r.sn.length ≤ 1000) (n : Rc) (A2 : Option Addr) (c2 : Nat) (hA2 : kSn.C w A2 n.sn.length n.sn) (hl2 : n.sn.length ≤ 1000) : Calls Try.prog 15 #[rcV r A c, rcV n A2 c2] w fun e w' => e = .returned (.bool (rcS r n)) ∧ Below w.heap.size w w' := by
  have HS := St.empty w
  · skip
    refine c_enter Try.func15 rfl 65 rfl (rcV r A c :: rcV n A2 c2 :: U32k1 (U16k1 (U8k1 (U4k1 (undef :: undef :: undef :: []))))) rfl ?_
    refine wp_seq_k (fun K1 hK2 => ?_)
    refine c_region (fun ops4 hops3 => ?_)
    clear hops3
    refine St.wBox HS (cs := (.int .u32 r.e :: .bool r.p :: .int .u32 r.b :: .int .u32 r.q :: .int .i64 r.l :: .int .u32 r.xe :: .int .u32 r.xq :: .slice A r.sn.length c :: .int .u64 r.s :: .int .u32 r.te :: .int .u32 r.tq :: .int .u32 r.be :: .int .u32 r.bq :: .int .i64 r.nx :: .int .i64 r.tt :: .int .i64 r.rt :: [])) (rcV r A c) rfl rfl ?_
    clear HS
    intro g5 w6 hg7 HS
    refine St.wBox HS (cs := (.int .u32 n.e :: .bool n.p :: .int .u32 n.b :: .int .u32 n.q :: .int .i64 n.l :: .int .u32 n.xe :: .int .u32 n.xq :: .slice A2 n.sn.length c2 :: .int .u64 n.s :: .int .u32 n.te :: .int .u32 n.tq :: .int .u32 n.be :: .int .u32 n.bq :: .int .i64 n.nx :: .int .i64 n.tt :: .int .i64 n.rt :: [])) (rcV n A2 c2) rfl rfl ?_
    clear HS
    intro g8 w9 hg10 HS
    refine p_run _ (x_assign (.bool false) rfl rfl) rfl ?_
    refine wpList_nil ?_
    refine hK2 _ _ ?_
    refine wp_seq_k (fun K11 hK12 => ?_)
    refine free_frame (n := 6) (T := _) [0, 0, 0, 0, 13, 31] [(0, 7), (1, 8), (2, 5), (3, 6)] (fun bq_ vq_ w_ => qv ((fun i_ => match i_ with | 0 => some (rcV r A c) | 1 => some (rcV n A2 c2) | _ => none) : Nat → Option Value) bq_ vq_ ∧ cond (bq_ 5) (∃ (g15 : Nat) (g18 : Nat), vq_ 2 = .pointer (some ⟨g15, 0, none⟩) ∧ vq_ 3 = .pointer (some ⟨g18, 0, none⟩) ∧ St w (fun _ => False) w_ ([blk g18 (.int .u32 n.e :: .bool n.p :: .int .u32 n.b :: .int .u32 n.q :: .int .i64 n.l :: .int .u32 n.xe :: .int .u32 n.xq :: .slice A2 n.sn.length c2 :: .int .u64 n.s :: .int .u32 n.te :: .int .u32 n.tq :: .int .u32 n.be :: .int .u32 n.bq :: .int .i64 n.nx :: .int .i64 n.tt :: .int .i64 n.rt :: []) 34, blk g15 (.int .u32 r.e :: .bool r.p :: .int .u32 r.b :: .int .u32 r.q :: .int .i64 r.l :: .int .u32 r.xe :: .int .u32 r.xq :: .slice A r.sn.length c :: .int .u64 r.s :: .int .u32 r.te :: .int .u32 r.tq :: .int .u32 r.be :: .int .u32 r.bq :: .int .i64 r.nx :: .int .i64 r.tt :: .int .i64 r.rt :: []) 34, blk g8 (.int .u32 n.e :: .bool n.p :: .int .u32 n.b :: .int .u32 n.q :: .int .i64 n.l :: .int .u32 n.xe :: .int .u32 n.xq :: .slice A2 n.sn.length c2 :: .int .u64 n.s :: .int .u32 n.te :: .int .u32 n.tq :: .int .u32 n.be :: .int .u32 n.bq :: .int .i64 n.nx :: .int .i64 n.tt :: .int .i64 n.rt :: []) 34, blk g5 (.int .u32 r.e :: .bool r.p :: .int .u32 r.b :: .int .u32 r.q :: .int .i64 r.l :: .int .u32 r.xe :: .int .u32 r.xq :: .slice A r.sn.length c :: .int .u64 r.s :: .int .u32 r.te :: .int .u32 r.tq :: .int .u32 r.be :: .int .u32 r.bq :: .int .i64 r.nx :: .int .i64 r.tt :: .int .i64 r.rt :: []) 34])) (cond (bq_ 4) (∃ (g15 : Nat) (g18 : Nat), vq_ 2 = .pointer (some ⟨g15, 0, none⟩) ∧ vq_ 3 = .pointer (some ⟨g18, 0, none⟩) ∧ St w (fun _ => False) w_ ([blk g15 (.int .u32 r.e :: .bool r.p :: .int .u32 r.b :: .int .u32 r.q :: .int .i64 r.l :: .int .u32 r.xe :: .int .u32 r.xq :: .slice A r.sn.length c :: .int .u64 r.s :: .int .u32 r.te :: .int .u32 r.tq :: .int .u32 r.be :: .int .u32 r.bq :: .int .i64 r.nx :: .int .i64 r.tt :: .int .i64 r.rt :: []) 34, blk g18 (.int .u32 0 :: .bool false :: .int .u32 0 :: .int .u32 0 :: .int .i64 0 :: .int .u32 0 :: .int .u32 0 :: .slice none 0 0 :: .int .u64 0 :: .int .u32 0 :: .int .u32 0 :: .int .u32 0 :: .int .u32 0 :: .int .i64 0 :: .int .i64 0 :: .int .i64 0 :: []) 34, blk g8 (.int .u32 n.e :: .bool n.p :: .int .u32 n.b :: .int .u32 n.q :: .int .i64 n.l :: .int .u32 n.xe :: .int .u32 n.xq :: .slice A2 n.sn.length c2 :: .int .u64 n.s :: .int .u32 n.te :: .int .u32 n.tq :: .int .u32 n.be :: .int .u32 n.bq :: .int .i64 n.nx :: .int .i64 n.tt :: .int .i64 n.rt :: []) 34, blk g5 (.int .u32 r.e :: .bool r.p :: .int .u32 r.b :: .int .u32 r.q :: .int .i64 r.l :: .int .u32 r.xe :: .int .u32 r.xq :: .slice A r.sn.length c :: .int .u64 r.s :: .int .u32 r.te :: .int .u32 r.tq :: .int .u32 r.be :: .int .u32 r.bq :: .int .i64 r.nx :: .int .i64 r.tt :: .int .i64 r.rt :: []) 34])) (cond (bq_ 3) (cond (bq_ 2) (∃ (g15 : Nat) (g18 : Nat), vq_ 2 = .pointer (some ⟨g15, 0, none⟩) ∧ vq_ 3 = .pointer (some ⟨g18, 0, none⟩) ∧ St w (fun _ => False) w_ ([blk g18 (.int .u32 0 :: .bool false :: .int .u32 0 :: .int .u32 0 :: .int .i64 0 :: .int .u32 0 :: .int .u32 0 :: .slice none 0 0 :: .int .u64 0 :: .int .u32 0 :: .int .u32 0 :: .int .u32 0 :: .int .u32 0 :: .int .i64 0 :: .int .i64 0 :: .int .i64 0 :: []) 34, blk g15 (.int .u32 0 :: .bool false :: .int .u32 0 :: .int .u32 0 :: .int .i64 0 :: .int .u32 0 :: .int .u32 0 :: .slice none 0 0 :: .int .u64 0 :: .int .u32 0 :: .int .u32 0 :: .int .u32 0 :: .int .u32 0 :: .int .i64 0 :: .int .i64 0 :: .int .i64 0 :: []) 34, blk g8 (.int .u32 n.e :: .bool n.p :: .int .u32 n.b :: .int .u32 n.q :: .int .i64 n.l :: .int .u32 n.xe :: .int .u32 n.xq :: .slice A2 n.sn.length c2 :: .int .u64 n.s :: .int .u32 n.te :: .int .u32 n.tq :: .int .u32 n.be :: .int .u32 n.bq :: .int .i64 n.nx :: .int .i64 n.tt :: .int .i64 n.rt :: []) 34, blk g5 (.int .u32 r.e :: .bool r.p :: .int .u32 r.b :: .int .u32 r.q :: .int .i64 r.l :: .int .u32 r.xe :: .int .u32 r.xq :: .slice A r.sn.length c :: .int .u64 r.s :: .int .u32 r.te :: .int .u32 r.tq :: .int .u32 r.be :: .int .u32 r.bq :: .int .i64 r.nx :: .int .i64 r.tt :: .int .i64 r.rt :: []) 34])) (∃ (g18 : Nat), vq_ 3 = .pointer (some ⟨g18, 0, none⟩) ∧ St w (fun _ => False) w_ ([blk g18 (.int .u32 0 :: .bool false :: .int .u32 0 :: .int .u32 0 :: .int .i64 0 :: .int .u32 0 :: .int .u32 0 :: .slice none 0 0 :: .int .u64 0 :: .int .u32 0 :: .int .u32 0 :: .int .u32 0 :: .int .u32 0 :: .int .i64 0 :: .int .i64 0 :: .int .i64 0 :: []) 34, blk g8 (.int .u32 n.e :: .bool n.p :: .int .u32 n.b :: .int .u32 n.q :: .int .i64 n.l :: .int .u32 n.xe :: .int .u32 n.xq :: .slice A2 n.sn.length c2 :: .int .u64 n.s :: .int .u32 n.te :: .int .u32 n.tq :: .int .u32 n.be :: .int .u32 n.bq :: .int .i64 n.nx :: .int .i64 n.tt :: .int .i64 n.rt :: []) 34, blk g5 (.int .u32 r.e :: .bool r.p :: .int .u32 r.b :: .int .u32 r.q :: .int .i64 r.l :: .int .u32 r.xe :: .int .u32 r.xq :: .slice A r.sn.length c :: .int .u64 r.s :: .int .u32 r.te :: .int .u32 r.tq :: .int .u32 r.be :: .int .u32 r.bq :: .int .i64 r.nx :: .int .i64 r.tt :: .int .i64 r.rt :: []) 34]))) (cond (bq_ 2) (∃ (g15 : Nat), vq_ 2 = .pointer (some ⟨g15, 0, none⟩) ∧ St w (fun _ => False) w_ ([blk g15 (.int .u32 0 :: .bool false :: .int .u32 0 :: .int .u32 0 :: .int .i64 0 :: .int .u32 0 :: .int .u32 0 :: .slice none 0 0 :: .int .u64 0 :: .int .u32 0 :: .int .u32 0 :: .int .u32 0 :: .int .u32 0 :: .int .i64 0 :: .int .i64 0 :: .int .i64 0 :: []) 34, blk g8 (.int .u32 n.e :: .bool n.p :: .int .u32 n.b :: .int .u32 n.q :: .int .i64 n.l :: .int .u32 n.xe :: .int .u32 n.xq :: .slice A2 n.sn.length c2 :: .int .u64 n.s :: .int .u32 n.te :: .int .u32 n.tq :: .int .u32 n.be :: .int .u32 n.bq :: .int .i64 n.nx :: .int .i64 n.tt :: .int .i64 n.rt :: []) 34, blk g5 (.int .u32 r.e :: .bool r.p :: .int .u32 r.b :: .int .u32 r.q :: .int .i64 r.l :: .int .u32 r.xe :: .int .u32 r.xq :: .slice A r.sn.length c :: .int .u64 r.s :: .int .u32 r.te :: .int .u32 r.tq :: .int .u32 r.be :: .int .u32 r.bq :: .int .i64 r.nx :: .int .i64 r.tt :: .int .i64 r.rt :: []) 34])) ((St w (fun _ => False) w_ ([blk g8 (.int .u32 n.e :: .bool n.p :: .int .u32 n.b :: .int .u32 n.q :: .int .i64 n.l :: .int .u32 n.xe :: .int .u32 n.xq :: .slice A2 n.sn.length c2 :: .int .u64 n.s :: .int .u32 n.te :: .int .u32 n.tq :: .int .u32 n.be :: .int .u32 n.bq :: .int .i64 n.nx :: .int .i64 n.tt :: .int .i64 n.rt :: []) 34, blk g5 (.int .u32 r.e :: .bool r.p :: .int .u32 r.b :: .int .u32 r.q :: .int .i64 r.l :: .int .u32 r.xe :: .int .u32 r.xq :: .slice A r.sn.length c :: .int .u64 r.s :: .int .u32 r.te :: .int .u32 r.tq :: .int .u32 r.be :: .int .u32 r.bq :: .int .i64 r.nx :: .int .i64 r.tt :: .int .i64 r.rt :: []) 34]))))))) (by kernel_rfl) rfl rfl (by kernel_rfl) (by kernel_rfl) rfl (by kernel_rfl) (by kernel_rfl) ⟨qv_none, HS.draw⟩ ?_ ?_
    · clear HS
      intro i_ hi_ bq_ vq_ a_ w_ hG hb_ hon hoff hfr hel hval
      obtain ⟨hV, hE⟩ := hG
      have hi_ := List.mem_range.1 hi_
      obtain ⟨l_, rfl⟩ := hfr
      have hv_ := fun (j t : Nat) (v : Value) (h1 : (j, t) ∈ [(0, 7), (1, 8), (2, 5), (3, 6)]) h2 h3 => (hval (j, t) h1 h3).trans (congrArg some (hV j v h2 h3))
      have hcs : i_ = 0 ∨ i_ = 1 ∨ i_ = 2 ∨ i_ = 3 ∨ i_ = 4 ∨ i_ = 5 := by omega
      rcases hcs with rfl | rfl | rfl | rfl | rfl | rfl
      · rcases hq3 : bq_ 3 with _ | _
        · skip
          rcases hq2 : bq_ 2 with _ | _
          · skip
            have hE0 := hE
            simp only [show bq_ 5 = false from (hoff 5 (by decide)), show bq_ 4 = false from (hoff 4 (by decide)), show bq_ 3 = false from hq3, show bq_ 2 = false from hq2, cond_true, cond_false] at hE0
            have HS := hE0
            have e2 : evl l_ (.tmp 2) = .pointer (some ⟨g5, 0, none⟩) := evl_of ((hel 2 (by decide)).trans rfl)
            exact ⟨_, rfl, fun K_ hK_ => q_op _ (x_loads (.int .u32 r.e :: .bool r.p :: .int .u32 r.b :: .int .u32 r.q :: .int .i64 r.l :: .int .u32 r.xe :: .int .u32 r.xq :: .slice A r.sn.length c :: .int .u64 r.s :: .int .u32 r.te :: .int .u32 r.tq :: .int .u32 r.be :: .int .u32 r.bq :: .int .i64 r.nx :: .int .i64 r.tt :: .int .i64 r.rt :: []) 16 rfl e2 (bkCells (HS.get (.tail _ (.head _))) 0 _ rfl) (by rfl) (by kernel_rfl) rfl) (hK_ _ _ ⟨qv_up hV (fun _ h => Option.some.inj h), hE⟩)⟩
          · skip
            have hE0 := hE
            simp only [show bq_ 5 = false from (hoff 5 (by decide)), show bq_ 4 = false from (hoff 4 (by decide)), show bq_ 3 = false from hq3, show bq_ 2 = true from hq2, cond_true, cond_false] at hE0
            obtain ⟨g15, hv2, HS⟩ := hE0
            have e2 : evl l_ (.tmp 2) = .pointer (some ⟨g5, 0, none⟩) := evl_of ((hel 2 (by decide)).trans rfl)
            exact ⟨_, rfl, fun K_ hK_ => q_op _ (x_loads (.int .u32 r.e :: .bool r.p :: .int .u32 r.b :: .int .u32 r.q :: .int .i64 r.l :: .int .u32 r.xe :: .int .u32 r.xq :: .slice A r.sn.length c :: .int .u64 r.s :: .int .u32 r.te :: .int .u32 r.tq :: .int .u32 r.be :: .int .u32 r.bq :: .int .i64 r.nx :: .int .i64 r.tt :: .int .i64 r.rt :: []) 16 rfl e2 (bkCells (HS.get (.tail _ (.tail _ (.head _)))) 0 _ rfl) (by rfl) (by kernel_rfl) rfl) (hK_ _ _ ⟨qv_up hV (fun _ h => Option.some.inj h), hE⟩)⟩
        · skip
          rcases hq2 : bq_ 2 with _ | _
          · skip
            have hE0 := hE
            simp only [show bq_ 5 = false from (hoff 5 (by decide)), show bq_ 4 = false from (hoff 4 (by decide)), show bq_ 3 = true from hq3, show bq_ 2 = false from hq2, cond_true, cond_false] at hE0
            obtain ⟨g18, hv3, HS⟩ := hE0
            have e2 : evl l_ (.tmp 2) = .pointer (some ⟨g5, 0, none⟩) := evl_of ((hel 2 (by decide)).trans rfl)
            exact ⟨_, rfl, fun K_ hK_ => q_op _ (x_loads (.int .u32 r.e :: .bool r.p :: .int .u32 r.b :: .int .u32 r.q :: .int .i64 r.l :: .int .u32 r.xe :: .int .u32 r.xq :: .slice A r.sn.length c :: .int .u64 r.s :: .int .u32 r.te :: .int .u32 r.tq :: .int .u32 r.be :: .int .u32 r.bq :: .int .i64 r.nx :: .int .i64 r.tt :: .int .i64 r.rt :: []) 16 rfl e2 (bkCells (HS.get (.tail _ (.tail _ (.head _)))) 0 _ rfl) (by rfl) (by kernel_rfl) rfl) (hK_ _ _ ⟨qv_up hV (fun _ h => Option.some.inj h), hE⟩)⟩
          · skip
            have hE0 := hE
            simp only [show bq_ 5 = false from (hoff 5 (by decide)), show bq_ 4 = false from (hoff 4 (by decide)), show bq_ 3 = true from hq3, show bq_ 2 = true from hq2, cond_true, cond_false] at hE0
            obtain ⟨g15, g18, hv2, hv3, HS⟩ := hE0
            have e2 : evl l_ (.tmp 2) = .pointer (some ⟨g5, 0, none⟩) := evl_of ((hel 2 (by decide)).trans rfl)
            exact ⟨_, rfl, fun K_ hK_ => q_op _ (x_loads (.int .u32 r.e :: .bool r.p :: .int .u32 r.b :: .int .u32 r.q :: .int .i64 r.l :: .int .u32 r.xe :: .int .u32 r.xq :: .slice A r.sn.length c :: .int .u64 r.s :: .int .u32 r.te :: .int .u32 r.tq :: .int .u32 r.be :: .int .u32 r.bq :: .int .i64 r.nx :: .int .i64 r.tt :: .int .i64 r.rt :: []) 16 rfl e2 (bkCells (HS.get (.tail _ (.tail _ (.tail _ (.head _))))) 0 _ rfl) (by rfl) (by kernel_rfl) rfl) (hK_ _ _ ⟨qv_up hV (fun _ h => Option.some.inj h), hE⟩)⟩
      · rcases hq4 : bq_ 4 with _ | _
        · skip
          rcases hq3 : bq_ 3 with _ | _
          · skip
            rcases hq2 : bq_ 2 with _ | _
            · skip
              have hE0 := hE
              simp only [show bq_ 5 = false from (hoff 5 (by decide)), show bq_ 4 = false from hq4, show bq_ 3 = false from hq3, show bq_ 2 = false from hq2, cond_true, cond_false] at hE0
              have HS := hE0
              have e3 : evl l_ (.tmp 3) = .pointer (some ⟨g8, 0, none⟩) := evl_of ((hel 3 (by decide)).trans rfl)
              exact ⟨_, rfl, fun K_ hK_ => q_op _ (x_loads (.int .u32 n.e :: .bool n.p :: .int .u32 n.b :: .int .u32 n.q :: .int .i64 n.l :: .int .u32 n.xe :: .int .u32 n.xq :: .slice A2 n.sn.length c2 :: .int .u64 n.s :: .int .u32 n.te :: .int .u32 n.tq :: .int .u32 n.be :: .int .u32 n.bq :: .int .i64 n.nx :: .int .i64 n.tt :: .int .i64 n.rt :: []) 16 rfl e3 (bkCells (HS.get (.head _)) 0 _ rfl) (by rfl) (by kernel_rfl) rfl) (hK_ _ _ ⟨qv_up hV (fun _ h => Option.some.inj h), hE⟩)⟩
            · skip
              have hE0 := hE
              simp only [show bq_ 5 = false from (hoff 5 (by decide)), show bq_ 4 = false from hq4, show bq_ 3 = false from hq3, show bq_ 2 = true from hq2, cond_true, cond_false] at hE0
              obtain ⟨g15, hv2, HS⟩ := hE0
              have e3 : evl l_ (.tmp 3) = .pointer (some ⟨g8, 0, none⟩) := evl_of ((hel 3 (by decide)).trans rfl)
              exact ⟨_, rfl, fun K_ hK_ => q_op _ (x_loads (.int .u32 n.e :: .bool n.p :: .int .u32 n.b :: .int .u32 n.q :: .int .i64 n.l :: .int .u32 n.xe :: .int .u32 n.xq :: .slice A2 n.sn.length c2 :: .int .u64 n.s :: .int .u32 n.te :: .int .u32 n.tq :: .int .u32 n.be :: .int .u32 n.bq :: .int .i64 n.nx :: .int .i64 n.tt :: .int .i64 n.rt :: []) 16 rfl e3 (bkCells (HS.get (.tail _ (.head _))) 0 _ rfl) (by rfl) (by kernel_rfl) rfl) (hK_ _ _ ⟨qv_up hV (fun _ h => Option.some.inj h), hE⟩)⟩
          · skip
            rcases hq2 : bq_ 2 with _ | _
            · skip
              have hE0 := hE
              simp only [show bq_ 5 = false from (hoff 5 (by decide)), show bq_ 4 = false from hq4, show bq_ 3 = true from hq3, show bq_ 2 = false from hq2, cond_true, cond_false] at hE0
              obtain ⟨g18, hv3, HS⟩ := hE0
              have e3 : evl l_ (.tmp 3) = .pointer (some ⟨g8, 0, none⟩) := evl_of ((hel 3 (by decide)).trans rfl)
              exact ⟨_, rfl, fun K_ hK_ => q_op _ (x_loads (.int .u32 n.e :: .bool n.p :: .int .u32 n.b :: .int .u32 n.q :: .int .i64 n.l :: .int .u32 n.xe :: .int .u32 n.xq :: .slice A2 n.sn.length c2 :: .int .u64 n.s :: .int .u32 n.te :: .int .u32 n.tq :: .int .u32 n.be :: .int .u32 n.bq :: .int .i64 n.nx :: .int .i64 n.tt :: .int .i64 n.rt :: []) 16 rfl e3 (bkCells (HS.get (.tail _ (.head _))) 0 _ rfl) (by rfl) (by kernel_rfl) rfl) (hK_ _ _ ⟨qv_up hV (fun _ h => Option.some.inj h), hE⟩)⟩
            · skip
              have hE0 := hE
              simp only [show bq_ 5 = false from (hoff 5 (by decide)), show bq_ 4 = false from hq4, show bq_ 3 = true from hq3, show bq_ 2 = true from hq2, cond_true, cond_false] at hE0
              obtain ⟨g15, g18, hv2, hv3, HS⟩ := hE0
              have e3 : evl l_ (.tmp 3) = .pointer (some ⟨g8, 0, none⟩) := evl_of ((hel 3 (by decide)).trans rfl)
              exact ⟨_, rfl, fun K_ hK_ => q_op _ (x_loads (.int .u32 n.e :: .bool n.p :: .int .u32 n.b :: .int .u32 n.q :: .int .i64 n.l :: .int .u32 n.xe :: .int .u32 n.xq :: .slice A2 n.sn.length c2 :: .int .u64 n.s :: .int .u32 n.te :: .int .u32 n.tq :: .int .u32 n.be :: .int .u32 n.bq :: .int .i64 n.nx :: .int .i64 n.tt :: .int .i64 n.rt :: []) 16 rfl e3 (bkCells (HS.get (.tail _ (.tail _ (.head _)))) 0 _ rfl) (by rfl) (by kernel_rfl) rfl) (hK_ _ _ ⟨qv_up hV (fun _ h => Option.some.inj h), hE⟩)⟩
        · skip
          have hE0 := hE
          simp only [show bq_ 5 = false from (hoff 5 (by decide)), show bq_ 4 = true from hq4, cond_true, cond_false] at hE0
          obtain ⟨g15, g18, hv2, hv3, HS⟩ := hE0
          have e3 : evl l_ (.tmp 3) = .pointer (some ⟨g8, 0, none⟩) := evl_of ((hel 3 (by decide)).trans rfl)
          exact ⟨_, rfl, fun K_ hK_ => q_op _ (x_loads (.int .u32 n.e :: .bool n.p :: .int .u32 n.b :: .int .u32 n.q :: .int .i64 n.l :: .int .u32 n.xe :: .int .u32 n.xq :: .slice A2 n.sn.length c2 :: .int .u64 n.s :: .int .u32 n.te :: .int .u32 n.tq :: .int .u32 n.be :: .int .u32 n.bq :: .int .i64 n.nx :: .int .i64 n.tt :: .int .i64 n.rt :: []) 16 rfl e3 (bkCells (HS.get (.tail _ (.tail _ (.head _)))) 0 _ rfl) (by rfl) (by kernel_rfl) rfl) (hK_ _ _ ⟨qv_up hV (fun _ h => Option.some.inj h), hE⟩)⟩
      · rcases hq3 : bq_ 3 with _ | _
        · skip
          have hE0 := hE
          simp only [show bq_ 5 = false from (hoff 5 (by decide)), show bq_ 4 = false from (hoff 4 (by decide)), show bq_ 3 = false from hq3, show bq_ 2 = false from hb_, cond_true, cond_false] at hE0
          have HS := hE0
          refine ⟨_, rfl, fun K_ hK_ => wp_of_list rfl ?_⟩
          intro ops_
          refine St.wAlloc HS (cs := (.int .u32 0 :: .bool false :: .int .u32 0 :: .int .u32 0 :: .int .i64 0 :: .int .u32 0 :: .int .u32 0 :: .slice none 0 0 :: .int .u64 0 :: .int .u32 0 :: .int .u32 0 :: .int .u32 0 :: .int .u32 0 :: .int .i64 0 :: .int .i64 0 :: .int .i64 0 :: [])) (.agg (.int .u32 0 :: .bool false :: .int .u32 0 :: .int .u32 0 :: .int .i64 0 :: .int .u32 0 :: .int .u32 0 :: .slice none 0 0 :: .int .u64 0 :: .int .u32 0 :: .int .u32 0 :: .int .u32 0 :: .int .u32 0 :: .int .i64 0 :: .int .i64 0 :: .int .i64 0 :: []).toArray) (by kernel_rfl) rfl ?_
          clear HS
          intro g900201 w900202 hg900203 HS
          refine wpList_nil ?_
          refine norm_put (hK_ (.pointer (some ⟨g900201, 0, none⟩)) _ ⟨qv_up hV (by intro _ h; cases h), ?_⟩)
          show cond (bq_ 5) _ _
          rw [show bq_ 5 = false from (hoff 5 (by decide)), cond_false]
          show cond (bq_ 4) _ _
          rw [show bq_ 4 = false from (hoff 4 (by decide)), cond_false]
          show cond (bq_ 3) _ _
          rw [show bq_ 3 = false from hq3, cond_false]
          show cond true _ _
          rw [cond_true]
          exact ⟨g900201, rfl, (((HS.front 2 rfl).front 2 rfl).front 2 rfl)⟩
        · skip
          have hE0 := hE
          simp only [show bq_ 5 = false from (hoff 5 (by decide)), show bq_ 4 = false from (hoff 4 (by decide)), show bq_ 3 = true from hq3, show bq_ 2 = false from hb_, cond_true, cond_false] at hE0
          obtain ⟨g18, hv3, HS⟩ := hE0
          refine ⟨_, rfl, fun K_ hK_ => wp_of_list rfl ?_⟩
          intro ops_
          refine St.wAlloc HS (cs := (.int .u32 0 :: .bool false :: .int .u32 0 :: .int .u32 0 :: .int .i64 0 :: .int .u32 0 :: .int .u32 0 :: .slice none 0 0 :: .int .u64 0 :: .int .u32 0 :: .int .u32 0 :: .int .u32 0 :: .int .u32 0 :: .int .i64 0 :: .int .i64 0 :: .int .i64 0 :: [])) (.agg (.int .u32 0 :: .bool false :: .int .u32 0 :: .int .u32 0 :: .int .i64 0 :: .int .u32 0 :: .int .u32 0 :: .slice none 0 0 :: .int .u64 0 :: .int .u32 0 :: .int .u32 0 :: .int .u32 0 :: .int .u32 0 :: .int .i64 0 :: .int .i64 0 :: .int .i64 0 :: []).toArray) (by kernel_rfl) rfl ?_
          clear HS
          intro g900201 w900202 hg900203 HS
          refine wpList_nil ?_
          refine norm_put (hK_ (.pointer (some ⟨g900201, 0, none⟩)) _ ⟨qv_up hV (by intro _ h; cases h), ?_⟩)
          show cond (bq_ 5) _ _
          rw [show bq_ 5 = false from (hoff 5 (by decide)), cond_false]
          show cond (bq_ 4) _ _
          rw [show bq_ 4 = false from (hoff 4 (by decide)), cond_false]
          show cond (bq_ 3) _ _
          rw [show bq_ 3 = true from hq3, cond_true]
          show cond true _ _
          rw [cond_true]
          exact ⟨g900201, g18, rfl, hv3, ((((HS.front 3 rfl).front 3 rfl).front 2 rfl).front 3 rfl)⟩
      · rcases hq2 : bq_ 2 with _ | _
        · skip
          have hE0 := hE
          simp only [show bq_ 5 = false from (hoff 5 (by decide)), show bq_ 4 = false from (hoff 4 (by decide)), show bq_ 3 = false from hb_, show bq_ 2 = false from hq2, cond_true, cond_false] at hE0
          have HS := hE0
          refine ⟨_, rfl, fun K_ hK_ => wp_of_list rfl ?_⟩
          intro ops_
          refine St.wAlloc HS (cs := (.int .u32 0 :: .bool false :: .int .u32 0 :: .int .u32 0 :: .int .i64 0 :: .int .u32 0 :: .int .u32 0 :: .slice none 0 0 :: .int .u64 0 :: .int .u32 0 :: .int .u32 0 :: .int .u32 0 :: .int .u32 0 :: .int .i64 0 :: .int .i64 0 :: .int .i64 0 :: [])) (.agg (.int .u32 0 :: .bool false :: .int .u32 0 :: .int .u32 0 :: .int .i64 0 :: .int .u32 0 :: .int .u32 0 :: .slice none 0 0 :: .int .u64 0 :: .int .u32 0 :: .int .u32 0 :: .int .u32 0 :: .int .u32 0 :: .int .i64 0 :: .int .i64 0 :: .int .i64 0 :: []).toArray) (by kernel_rfl) rfl ?_
          clear HS
          intro g900301 w900302 hg900303 HS
          refine wpList_nil ?_
          refine norm_put (hK_ (.pointer (some ⟨g900301, 0, none⟩)) _ ⟨qv_up hV (by intro _ h; cases h), ?_⟩)
          show cond (bq_ 5) _ _
          rw [show bq_ 5 = false from (hoff 5 (by decide)), cond_false]
          show cond (bq_ 4) _ _
          rw [show bq_ 4 = false from (hoff 4 (by decide)), cond_false]
          show cond true _ _
          rw [cond_true]
          show cond (bq_ 2) _ _
          rw [show bq_ 2 = false from hq2, cond_false]
          exact ⟨g900301, rfl, (((HS.front 2 rfl).front 2 rfl).front 2 rfl)⟩
        · skip
          have hE0 := hE
          simp only [show bq_ 5 = false from (hoff 5 (by decide)), show bq_ 4 = false from (hoff 4 (by decide)), show bq_ 3 = false from hb_, show bq_ 2 = true from hq2, cond_true, cond_false] at hE0
          obtain ⟨g15, hv2, HS⟩ := hE0
          refine ⟨_, rfl, fun K_ hK_ => wp_of_list rfl ?_⟩
          intro ops_
          refine St.wAlloc HS (cs := (.int .u32 0 :: .bool false :: .int .u32 0 :: .int .u32 0 :: .int .i64 0 :: .int .u32 0 :: .int .u32 0 :: .slice none 0 0 :: .int .u64 0 :: .int .u32 0 :: .int .u32 0 :: .int .u32 0 :: .int .u32 0 :: .int .i64 0 :: .int .i64 0 :: .int .i64 0 :: [])) (.agg (.int .u32 0 :: .bool false :: .int .u32 0 :: .int .u32 0 :: .int .i64 0 :: .int .u32 0 :: .int .u32 0 :: .slice none 0 0 :: .int .u64 0 :: .int .u32 0 :: .int .u32 0 :: .int .u32 0 :: .int .u32 0 :: .int .i64 0 :: .int .i64 0 :: .int .i64 0 :: []).toArray) (by kernel_rfl) rfl ?_
          clear HS
          intro g900301 w900302 hg900303 HS
          refine wpList_nil ?_
          refine norm_put (hK_ (.pointer (some ⟨g900301, 0, none⟩)) _ ⟨qv_up hV (by intro _ h; cases h), ?_⟩)
          show cond (bq_ 5) _ _
          rw [show bq_ 5 = false from (hoff 5 (by decide)), cond_false]
          show cond (bq_ 4) _ _
          rw [show bq_ 4 = false from (hoff 4 (by decide)), cond_false]
          show cond true _ _
          rw [cond_true]
          show cond (bq_ 2) _ _
          rw [show bq_ 2 = true from hq2, cond_true]
          exact ⟨g15, g900301, hv2, rfl, ((((HS.front 3 rfl).front 3 rfl).front 3 rfl).front 3 rfl)⟩
      · have h5 := hval (2, 5) (by decide) (hon 2 (by decide))
        have h7 : (fr l_).tmps[7]? = some (rcV r A c) := hv_ 0 7 _ (by decide) rfl (hon 0 (by decide))
        have hE0 := hE
        simp only [show bq_ 5 = false from (hoff 5 (by decide)), show bq_ 4 = false from hb_, show bq_ 3 = true from (hon 3 (by decide)), show bq_ 2 = true from (hon 2 (by decide)), cond_true, cond_false] at hE0
        obtain ⟨g15, g18, hv2, hv3, HS⟩ := hE0
        rw [hv2] at h5
        have e5 : evl l_ (.tmp 5) = .pointer (some ⟨g15, 0, none⟩) := evl_of h5
        have e7 : evl l_ (.tmp 7) = rcV r A c := evl_of h7
        refine ⟨_, rfl, fun K_ hK_ => wp_of_list rfl ?_⟩
        intro ops_
        refine St.stores (cs' := (.int .u32 r.e :: .bool r.p :: .int .u32 r.b :: .int .u32 r.q :: .int .i64 r.l :: .int .u32 r.xe :: .int .u32 r.xq :: .slice A r.sn.length c :: .int .u64 r.s :: .int .u32 r.te :: .int .u32 r.tq :: .int .u32 r.be :: .int .u32 r.bq :: .int .i64 r.nx :: .int .i64 r.tt :: .int .i64 r.rt :: [])) (HS.front 1 rfl) (.int .u32 r.e :: .bool r.p :: .int .u32 r.b :: .int .u32 r.q :: .int .i64 r.l :: .int .u32 r.xe :: .int .u32 r.xq :: .slice A r.sn.length c :: .int .u64 r.s :: .int .u32 r.te :: .int .u32 r.tq :: .int .u32 r.be :: .int .u32 r.bq :: .int .i64 r.nx :: .int .i64 r.tt :: .int .i64 r.rt :: []) 16 e5 e7 (by rfl) (by kernel_rfl) rfl (by simp) rfl ?_
        clear HS
        intro w900401 HS
        refine wpList_nil ?_
        refine norm_none (hK_ undef _ ⟨qv_up hV (by intro _ h; cases h), ?_⟩)
        show cond (bq_ 5) _ _
        rw [show bq_ 5 = false from (hoff 5 (by decide)), cond_false]
        show cond true _ _
        rw [cond_true]
        exact ⟨g15, g18, hv2, hv3, ((((HS.front 3 rfl).front 3 rfl).front 3 rfl).front 3 rfl)⟩
      · have h6 := hval (3, 6) (by decide) (hon 3 (by decide))
        have h8 : (fr l_).tmps[8]? = some (rcV n A2 c2) := hv_ 1 8 _ (by decide) rfl (hon 1 (by decide))
        have hE0 := hE
        simp only [show bq_ 5 = false from hb_, show bq_ 4 = true from (hon 4 (by decide)), cond_true, cond_false] at hE0
        obtain ⟨g15, g18, hv2, hv3, HS⟩ := hE0
        rw [hv3] at h6
        have e6 : evl l_ (.tmp 6) = .pointer (some ⟨g18, 0, none⟩) := evl_of h6
        have e8 : evl l_ (.tmp 8) = rcV n A2 c2 := evl_of h8
        refine ⟨_, rfl, fun K_ hK_ => wp_of_list rfl ?_⟩
        intro ops_
        refine St.stores (cs' := (.int .u32 n.e :: .bool n.p :: .int .u32 n.b :: .int .u32 n.q :: .int .i64 n.l :: .int .u32 n.xe :: .int .u32 n.xq :: .slice A2 n.sn.length c2 :: .int .u64 n.s :: .int .u32 n.te :: .int .u32 n.tq :: .int .u32 n.be :: .int .u32 n.bq :: .int .i64 n.nx :: .int .i64 n.tt :: .int .i64 n.rt :: [])) (HS.front 1 rfl) (.int .u32 n.e :: .bool n.p :: .int .u32 n.b :: .int .u32 n.q :: .int .i64 n.l :: .int .u32 n.xe :: .int .u32 n.xq :: .slice A2 n.sn.length c2 :: .int .u64 n.s :: .int .u32 n.te :: .int .u32 n.tq :: .int .u32 n.be :: .int .u32 n.bq :: .int .i64 n.nx :: .int .i64 n.tt :: .int .i64 n.rt :: []) 16 e6 e8 (by rfl) (by kernel_rfl) rfl (by simp) rfl ?_
        clear HS
        intro w900501 HS
        refine wpList_nil ?_
        refine norm_none (hK_ undef _ ⟨qv_up hV (by intro _ h; cases h), ?_⟩)
        show cond true _ _
        rw [cond_true]
        exact ⟨g15, g18, hv2, hv3, ((((HS.front 3 rfl).front 3 rfl).front 3 rfl).front 3 rfl)⟩
    intro bq_ vq_ w_ hall hG
    obtain ⟨hV, hE⟩ := hG
    clear HS
    rw [show bq_ 5 = true from hall 5 (by decide)] at hE
    simp only [cond_true] at hE
    obtain ⟨g15, g18, hv2, hv3, HS⟩ := hE
    have hv0 := hV 0 _ rfl (hall 0 (by decide))
    have hv1 := hV 1 _ rfl (hall 1 (by decide))
    clear hV hall
    rw [putSel_fr]
    simp only [tells, List.map_cons, List.map_nil, setAll, List.set_cons_succ, List.set_cons_zero, hv0, hv1, hv2, hv3]
    clear hv0 hv1 hv2 hv3
    generalize w_ = w900502 at HS ⊢
    refine fr_at (l' := (rcV r A c :: rcV n A2 c2 :: .pointer (some ⟨g5, 0, none⟩) :: .pointer (some ⟨g8, 0, none⟩) :: .bool false :: .pointer (some ⟨g15, 0, none⟩) :: .pointer (some ⟨g18, 0, none⟩) :: rcV r A c :: rcV n A2 c2 :: U32k1 (U16k1 (U8k1 ([]))))) rfl ?_
    refine hK12 _ _ ?_
    refine wp_seq_k (fun K900503 hK900504 => ?_)
    refine c_region (fun ops900506 hops900505 => ?_)
    clear hops900505
    refine p_run _ (x_field (j := 7) _ _ rfl rfl Try.underlying34 rfl (by rfl) rfl) rfl ?_
    refine St.store (cs' := (.int .u32 r.e :: .bool r.p :: .int .u32 r.b :: .int .u32 r.q :: .int .i64 r.l :: .int .u32 r.xe :: .int .u32 r.xq :: .slice none 0 0 :: .int .u64 r.s :: .int .u32 r.te :: .int .u32 r.tq :: .int .u32 r.be :: .int .u32 r.bq :: .int .i64 r.nx :: .int .i64 r.tt :: .int .i64 r.rt :: [])) (HS.front 1 rfl) (.slice none 0 0) rfl rfl rfl (by kernel_rfl) (by rfl) rfl ?_
    clear HS
    intro w900507 HS
    refine p_run _ (x_field (j := 7) _ _ rfl rfl Try.underlying34 rfl (by rfl) rfl) rfl ?_
    refine St.store (cs' := (.int .u32 n.e :: .bool n.p :: .int .u32 n.b :: .int .u32 n.q :: .int .i64 n.l :: .int .u32 n.xe :: .int .u32 n.xq :: .slice none 0 0 :: .int .u64 n.s :: .int .u32 n.te :: .int .u32 n.tq :: .int .u32 n.be :: .int .u32 n.bq :: .int .i64 n.nx :: .int .i64 n.tt :: .int .i64 n.rt :: [])) (HS.front 1 rfl) (.slice none 0 0) rfl rfl rfl (by kernel_rfl) (by rfl) rfl ?_
    clear HS
    intro w900508 HS
    refine wpList_nil ?_
    refine hK900504 _ _ ?_
    refine wp_seq_k (fun K900509 hK900510 => ?_)
    refine c_region (fun ops900512 hops900511 => ?_)
    refine p_run _ (x_field (j := 7) _ _ rfl rfl Try.underlying34 rfl (by rfl) rfl) rfl ?_
    refine p_run _ (x_load (.slice A r.sn.length c) rfl rfl (bkCell (HS.get (.tail _ (.tail _ (.tail _ (.head _))))) 7 _ rfl) (by rfl)) rfl ?_
    refine p_run _ (x_field (j := 7) _ _ rfl rfl Try.underlying34 rfl (by rfl) rfl) rfl ?_
    refine p_run _ (x_load (.slice A2 n.sn.length c2) rfl rfl (bkCell (HS.get (.tail _ (.tail _ (.head _)))) 7 _ rfl) (by rfl)) rfl ?_
    refine w_call [.slice A r.sn.length c, .slice A2 n.sn.length c2] Try.func36 (by kernel_rfl) (by rfl) rfl ?_
    refine (sns_equal _ A c r.sn (Kd.C_below hA HS.belowOf) A2 c2 n.sn (Kd.C_below hA2 HS.belowOf) hl hl2).mono ?_
    rintro e w900513 ⟨rfl, hb_⟩
    replace HS := HS.here hb_
    clear hb_
    refine ⟨_, rfl, ?_⟩
    refine fr_to (l' := (rcV r A c :: rcV n A2 c2 :: .pointer (some ⟨g5, 0, none⟩) :: .pointer (some ⟨g8, 0, none⟩) :: .bool false :: .pointer (some ⟨g15, 0, none⟩) :: .pointer (some ⟨g18, 0, none⟩) :: rcV r A c :: rcV n A2 c2 :: .pointer (some ⟨g15, 7, none⟩) :: .pointer (some ⟨g18, 7, none⟩) :: .pointer (some ⟨g5, 7, none⟩) :: .slice A r.sn.length c :: .pointer (some ⟨g8, 7, none⟩) :: .slice A2 n.sn.length c2 :: .bool (decide (r.sn = n.sn)) :: U32k1 (U16k1 (undef :: [])))) rfl ?_
    refine p_run _ (x_move (.bool (decide (r.sn = n.sn))) rfl rfl) rfl ?_
    obtain ⟨bz900514, hbz900514⟩ : ∃ b_, b_ = ((decide (r.sn = n.sn))) := ⟨_, rfl⟩
    rw [← hbz900514]
    refine p_tail 6 (fun a_ w_ => ∃ (uz17 uz18 uz19 uz20 uz21 : Value) (qz900516 : V8) (bz900515 : Bool), a_ = fr (rcV r A c :: rcV n A2 c2 :: .pointer (some ⟨g5, 0, none⟩) :: .pointer (some ⟨g8, 0, none⟩) :: .bool false :: .pointer (some ⟨g15, 0, none⟩) :: .pointer (some ⟨g18, 0, none⟩) :: rcV r A c :: V8.l qz900516 (.bool bz900514 :: uz17 :: uz18 :: uz19 :: uz20 :: uz21 :: .bool bz900515 :: U32k1 (U8k1 (undef :: undef :: [])))) ∧ bz900515 = (bz900514 && (r.e == n.e)) ∧ St w (fun _ => False) w_ ([blk g18 (.int .u32 n.e :: .bool n.p :: .int .u32 n.b :: .int .u32 n.q :: .int .i64 n.l :: .int .u32 n.xe :: .int .u32 n.xq :: .slice none 0 0 :: .int .u64 n.s :: .int .u32 n.te :: .int .u32 n.tq :: .int .u32 n.be :: .int .u32 n.bq :: .int .i64 n.nx :: .int .i64 n.tt :: .int .i64 n.rt :: []) 34, blk g15 (.int .u32 r.e :: .bool r.p :: .int .u32 r.b :: .int .u32 r.q :: .int .i64 r.l :: .int .u32 r.xe :: .int .u32 r.xq :: .slice none 0 0 :: .int .u64 r.s :: .int .u32 r.te :: .int .u32 r.tq :: .int .u32 r.be :: .int .u32 r.bq :: .int .i64 r.nx :: .int .i64 r.tt :: .int .i64 r.rt :: []) 34, blk g8 (.int .u32 n.e :: .bool n.p :: .int .u32 n.b :: .int .u32 n.q :: .int .i64 n.l :: .int .u32 n.xe :: .int .u32 n.xq :: .slice A2 n.sn.length c2 :: .int .u64 n.s :: .int .u32 n.te :: .int .u32 n.tq :: .int .u32 n.be :: .int .u32 n.bq :: .int .i64 n.nx :: .int .i64 n.tt :: .int .i64 n.rt :: []) 34, blk g5 (.int .u32 r.e :: .bool r.p :: .int .u32 r.b :: .int .u32 r.q :: .int .i64 r.l :: .int .u32 r.xe :: .int .u32 r.xq :: .slice A r.sn.length c :: .int .u64 r.s :: .int .u32 r.te :: .int .u32 r.tq :: .int .u32 r.be :: .int .u32 r.bq :: .int .i64 r.nx :: .int .i64 r.tt :: .int .i64 r.rt :: []) 34])) (fun T900517 => ?_) ?_
    · cases bz900514
      · skip
        refine p_off (by rw [hops900511]; rfl) rfl ?_
        refine p_off (by rw [hops900511]; rfl) rfl ?_
        refine p_off (by rw [hops900511]; rfl) rfl ?_
        refine p_off (by rw [hops900511]; rfl) rfl ?_
        refine p_off (by rw [hops900511]; rfl) rfl ?_
        refine p_run _ (x_pick false (undef) (.bool false) (.bool false) rfl rfl rfl rfl rfl) rfl ?_
        exact T900517 _ _ ⟨undef, undef, undef, undef, undef, ⟨rcV n A2 c2, .pointer (some ⟨g15, 7, none⟩), .pointer (some ⟨g18, 7, none⟩), .pointer (some ⟨g5, 7, none⟩), .slice A r.sn.length c, .pointer (some ⟨g8, 7, none⟩), .slice A2 n.sn.length c2, .bool false⟩, false, rfl, rfl, HS⟩
      · skip
        refine p_on rfl (by rw [hops900511]; rfl) ?_
        refine p_run _ (x_field (j := 0) _ _ rfl rfl Try.underlying34 rfl (by rfl) rfl) rfl ?_
        refine p_on rfl (by rw [hops900511]; rfl) ?_
        refine p_run _ (x_load (.int .u32 r.e) rfl rfl (bkCell (HS.get (.tail _ (.head _))) 0 _ rfl) (by rfl)) rfl ?_
        refine p_on rfl (by rw [hops900511]; rfl) ?_
        refine p_run _ (x_field (j := 0) _ _ rfl rfl Try.underlying34 rfl (by rfl) rfl) rfl ?_
        refine p_on rfl (by rw [hops900511]; rfl) ?_
        refine p_run _ (x_load (.int .u32 n.e) rfl rfl (bkCell (HS.get (.head _)) 0 _ rfl) (by rfl)) rfl ?_
        refine p_on rfl (by rw [hops900511]; rfl) ?_
        refine p_run _ (x_cmp (k := .u32) (m := r.e) (n := n.e) .eql (r.e == n.e) rfl rfl rfl rfl rfl) rfl ?_
        refine p_run _ (x_pick true (.bool (r.e == n.e)) (.bool false) (.bool (r.e == n.e)) rfl rfl rfl rfl rfl) rfl ?_
        exact T900517 _ _ ⟨(.pointer (some ⟨g15, 0, none⟩)), (.int .u32 r.e), (.pointer (some ⟨g18, 0, none⟩)), (.int .u32 n.e), (.bool (r.e == n.e)), ⟨rcV n A2 c2, .pointer (some ⟨g15, 7, none⟩), .pointer (some ⟨g18, 7, none⟩), .pointer (some ⟨g5, 7, none⟩), .slice A r.sn.length c, .pointer (some ⟨g8, 7, none⟩), .slice A2 n.sn.length c2, .bool true⟩, (r.e == n.e), rfl, rfl, HS⟩
    clear HS
    rintro _ w_ ⟨uz17, uz18, uz19, uz20, uz21, qz900516, bz900515, rfl, hbz900515, HS⟩
    skip
    refine p_run _ (x_move (.bool bz900515) rfl rfl) rfl ?_
    refine p_tail 6 (fun a_ w_ => ∃ (uz24 uz25 uz26 uz27 uz28 : Value) (qz900520 : V8) (bz900519 : Bool), a_ = fr (rcV r A c :: rcV n A2 c2 :: .pointer (some ⟨g5, 0, none⟩) :: .pointer (some ⟨g8, 0, none⟩) :: .bool false :: .pointer (some ⟨g15, 0, none⟩) :: .pointer (some ⟨g18, 0, none⟩) :: rcV r A c :: V8.l qz900516 (V8.l qz900520 (uz24 :: uz25 :: uz26 :: uz27 :: uz28 :: .bool bz900519 :: U32k1 (undef :: undef :: undef :: [])))) ∧ bz900519 = (bz900515 && (r.p == n.p)) ∧ St w (fun _ => False) w_ ([blk g18 (.int .u32 n.e :: .bool n.p :: .int .u32 n.b :: .int .u32 n.q :: .int .i64 n.l :: .int .u32 n.xe :: .int .u32 n.xq :: .slice none 0 0 :: .int .u64 n.s :: .int .u32 n.te :: .int .u32 n.tq :: .int .u32 n.be :: .int .u32 n.bq :: .int .i64 n.nx :: .int .i64 n.tt :: .int .i64 n.rt :: []) 34, blk g15 (.int .u32 r.e :: .bool r.p :: .int .u32 r.b :: .int .u32 r.q :: .int .i64 r.l :: .int .u32 r.xe :: .int .u32 r.xq :: .slice none 0 0 :: .int .u64 r.s :: .int .u32 r.te :: .int .u32 r.tq :: .int .u32 r.be :: .int .u32 r.bq :: .int .i64 r.nx :: .int .i64 r.tt :: .int .i64 r.rt :: []) 34, blk g8 (.int .u32 n.e :: .bool n.p :: .int .u32 n.b :: .int .u32 n.q :: .int .i64 n.l :: .int .u32 n.xe :: .int .u32 n.xq :: .slice A2 n.sn.length c2 :: .int .u64 n.s :: .int .u32 n.te :: .int .u32 n.tq :: .int .u32 n.be :: .int .u32 n.bq :: .int .i64 n.nx :: .int .i64 n.tt :: .int .i64 n.rt :: []) 34, blk g5 (.int .u32 r.e :: .bool r.p :: .int .u32 r.b :: .int .u32 r.q :: .int .i64 r.l :: .int .u32 r.xe :: .int .u32 r.xq :: .slice A r.sn.length c :: .int .u64 r.s :: .int .u32 r.te :: .int .u32 r.tq :: .int .u32 r.be :: .int .u32 r.bq :: .int .i64 r.nx :: .int .i64 r.tt :: .int .i64 r.rt :: []) 34])) (fun T900521 => ?_) ?_
    · cases bz900515
      · skip
        refine p_off (by rw [hops900511]; rfl) rfl ?_
        refine p_off (by rw [hops900511]; rfl) rfl ?_
        refine p_off (by rw [hops900511]; rfl) rfl ?_
        refine p_off (by rw [hops900511]; rfl) rfl ?_
        refine p_off (by rw [hops900511]; rfl) rfl ?_
        refine p_run _ (x_pick false (undef) (.bool false) (.bool false) rfl rfl rfl rfl rfl) rfl ?_
        exact T900521 _ _ ⟨undef, undef, undef, undef, undef, ⟨.bool bz900514, uz17, uz18, uz19, uz20, uz21, .bool false, .bool false⟩, false, rfl, rfl, HS⟩
      · skip
        refine p_on rfl (by rw [hops900511]; rfl) ?_
        refine p_run _ (x_field (j := 1) _ _ rfl rfl Try.underlying34 rfl (by rfl) rfl) rfl ?_
        refine p_on rfl (by rw [hops900511]; rfl) ?_
        refine p_run _ (x_load (.bool r.p) rfl rfl (bkCell (HS.get (.tail _ (.head _))) 1 _ rfl) (by rfl)) rfl ?_
        refine p_on rfl (by rw [hops900511]; rfl) ?_
        refine p_run _ (x_field (j := 1) _ _ rfl rfl Try.underlying34 rfl (by rfl) rfl) rfl ?_
        refine p_on rfl (by rw [hops900511]; rfl) ?_
        refine p_run _ (x_load (.bool n.p) rfl rfl (bkCell (HS.get (.head _)) 1 _ rfl) (by rfl)) rfl ?_
        refine p_on rfl (by rw [hops900511]; rfl) ?_
        refine p_run _ (x_boolcmp .eql r.p n.p (r.p == n.p) rfl rfl rfl Try.underlying4 rfl rfl) rfl ?_
        refine p_run _ (x_pick true (.bool (r.p == n.p)) (.bool false) (.bool (r.p == n.p)) rfl rfl rfl rfl rfl) rfl ?_
        exact T900521 _ _ ⟨(.pointer (some ⟨g15, 1, none⟩)), (.bool r.p), (.pointer (some ⟨g18, 1, none⟩)), (.bool n.p), (.bool (r.p == n.p)), ⟨.bool bz900514, uz17, uz18, uz19, uz20, uz21, .bool true, .bool true⟩, (r.p == n.p), rfl, rfl, HS⟩
    clear HS
    rintro _ w_ ⟨uz24, uz25, uz26, uz27, uz28, qz900520, bz900519, rfl, hbz900519, HS⟩
    skip
    refine p_run _ (x_move (.bool bz900519) rfl rfl) rfl ?_
    refine p_tail 6 (fun a_ w_ => ∃ (uz32 uz33 uz34 uz35 : Value) (qz900524 : V8) (bz900523 : Bool), a_ = fr (rcV r A c :: rcV n A2 c2 :: .pointer (some ⟨g5, 0, none⟩) :: .pointer (some ⟨g8, 0, none⟩) :: .bool false :: .pointer (some ⟨g15, 0, none⟩) :: .pointer (some ⟨g18, 0, none⟩) :: rcV r A c :: V8.l qz900516 (V8.l qz900520 (V8.l qz900524 (uz32 :: uz33 :: uz34 :: uz35 :: .bool bz900523 :: U16k1 (U8k1 (U4k1 ([]))))))) ∧ bz900523 = (bz900519 && (r.b == n.b)) ∧ St w (fun _ => False) w_ ([blk g18 (.int .u32 n.e :: .bool n.p :: .int .u32 n.b :: .int .u32 n.q :: .int .i64 n.l :: .int .u32 n.xe :: .int .u32 n.xq :: .slice none 0 0 :: .int .u64 n.s :: .int .u32 n.te :: .int .u32 n.tq :: .int .u32 n.be :: .int .u32 n.bq :: .int .i64 n.nx :: .int .i64 n.tt :: .int .i64 n.rt :: []) 34, blk g15 (.int .u32 r.e :: .bool r.p :: .int .u32 r.b :: .int .u32 r.q :: .int .i64 r.l :: .int .u32 r.xe :: .int .u32 r.xq :: .slice none 0 0 :: .int .u64 r.s :: .int .u32 r.te :: .int .u32 r.tq :: .int .u32 r.be :: .int .u32 r.bq :: .int .i64 r.nx :: .int .i64 r.tt :: .int .i64 r.rt :: []) 34, blk g8 (.int .u32 n.e :: .bool n.p :: .int .u32 n.b :: .int .u32 n.q :: .int .i64 n.l :: .int .u32 n.xe :: .int .u32 n.xq :: .slice A2 n.sn.length c2 :: .int .u64 n.s :: .int .u32 n.te :: .int .u32 n.tq :: .int .u32 n.be :: .int .u32 n.bq :: .int .i64 n.nx :: .int .i64 n.tt :: .int .i64 n.rt :: []) 34, blk g5 (.int .u32 r.e :: .bool r.p :: .int .u32 r.b :: .int .u32 r.q :: .int .i64 r.l :: .int .u32 r.xe :: .int .u32 r.xq :: .slice A r.sn.length c :: .int .u64 r.s :: .int .u32 r.te :: .int .u32 r.tq :: .int .u32 r.be :: .int .u32 r.bq :: .int .i64 r.nx :: .int .i64 r.tt :: .int .i64 r.rt :: []) 34])) (fun T900525 => ?_) ?_
    · cases bz900519
      · skip
        refine p_off (by rw [hops900511]; rfl) rfl ?_
        refine p_off (by rw [hops900511]; rfl) rfl ?_
        refine p_off (by rw [hops900511]; rfl) rfl ?_
        refine p_off (by rw [hops900511]; rfl) rfl ?_
        refine p_off (by rw [hops900511]; rfl) rfl ?_
        refine p_run _ (x_pick false (undef) (.bool false) (.bool false) rfl rfl rfl rfl rfl) rfl ?_
        exact T900525 _ _ ⟨undef, undef, undef, undef, ⟨uz24, uz25, uz26, uz27, uz28, .bool false, .bool false, undef⟩, false, rfl, rfl, HS⟩
      · skip
        refine p_on rfl (by rw [hops900511]; rfl) ?_
        refine p_run _ (x_field (j := 2) _ _ rfl rfl Try.underlying34 rfl (by rfl) rfl) rfl ?_
        refine p_on rfl (by rw [hops900511]; rfl) ?_
        refine p_run _ (x_load (.int .u32 r.b) rfl rfl (bkCell (HS.get (.tail _ (.head _))) 2 _ rfl) (by rfl)) rfl ?_
        refine p_on rfl (by rw [hops900511]; rfl) ?_
        refine p_run _ (x_field (j := 2) _ _ rfl rfl Try.underlying34 rfl (by rfl) rfl) rfl ?_
        refine p_on rfl (by rw [hops900511]; rfl) ?_
        refine p_run _ (x_load (.int .u32 n.b) rfl rfl (bkCell (HS.get (.head _)) 2 _ rfl) (by rfl)) rfl ?_
        refine p_on rfl (by rw [hops900511]; rfl) ?_
        refine p_run _ (x_cmp (k := .u32) (m := r.b) (n := n.b) .eql (r.b == n.b) rfl rfl rfl rfl rfl) rfl ?_
        refine p_run _ (x_pick true (.bool (r.b == n.b)) (.bool false) (.bool (r.b == n.b)) rfl rfl rfl rfl rfl) rfl ?_
        exact T900525 _ _ ⟨(.int .u32 r.b), (.pointer (some ⟨g18, 2, none⟩)), (.int .u32 n.b), (.bool (r.b == n.b)), ⟨uz24, uz25, uz26, uz27, uz28, .bool true, .bool true, .pointer (some ⟨g15, 2, none⟩)⟩, (r.b == n.b), rfl, rfl, HS⟩
    clear HS
    rintro _ w_ ⟨uz32, uz33, uz34, uz35, qz900524, bz900523, rfl, hbz900523, HS⟩
    skip
    refine p_run _ (x_move (.bool bz900523) rfl rfl) rfl ?_
    refine p_tail 6 (fun a_ w_ => ∃ (uz40 uz41 uz42 : Value) (qz900528 : V8) (bz900527 : Bool), a_ = fr (rcV r A c :: rcV n A2 c2 :: .pointer (some ⟨g5, 0, none⟩) :: .pointer (some ⟨g8, 0, none⟩) :: .bool false :: .pointer (some ⟨g15, 0, none⟩) :: .pointer (some ⟨g18, 0, none⟩) :: rcV r A c :: V8.l qz900516 (V8.l qz900520 (V8.l qz900524 (V8.l qz900528 (uz40 :: uz41 :: uz42 :: .bool bz900527 :: U16k1 (U4k1 (undef :: []))))))) ∧ bz900527 = (bz900523 && (r.q == n.q)) ∧ St w (fun _ => False) w_ ([blk g18 (.int .u32 n.e :: .bool n.p :: .int .u32 n.b :: .int .u32 n.q :: .int .i64 n.l :: .int .u32 n.xe :: .int .u32 n.xq :: .slice none 0 0 :: .int .u64 n.s :: .int .u32 n.te :: .int .u32 n.tq :: .int .u32 n.be :: .int .u32 n.bq :: .int .i64 n.nx :: .int .i64 n.tt :: .int .i64 n.rt :: []) 34, blk g15 (.int .u32 r.e :: .bool r.p :: .int .u32 r.b :: .int .u32 r.q :: .int .i64 r.l :: .int .u32 r.xe :: .int .u32 r.xq :: .slice none 0 0 :: .int .u64 r.s :: .int .u32 r.te :: .int .u32 r.tq :: .int .u32 r.be :: .int .u32 r.bq :: .int .i64 r.nx :: .int .i64 r.tt :: .int .i64 r.rt :: []) 34, blk g8 (.int .u32 n.e :: .bool n.p :: .int .u32 n.b :: .int .u32 n.q :: .int .i64 n.l :: .int .u32 n.xe :: .int .u32 n.xq :: .slice A2 n.sn.length c2 :: .int .u64 n.s :: .int .u32 n.te :: .int .u32 n.tq :: .int .u32 n.be :: .int .u32 n.bq :: .int .i64 n.nx :: .int .i64 n.tt :: .int .i64 n.rt :: []) 34, blk g5 (.int .u32 r.e :: .bool r.p :: .int .u32 r.b :: .int .u32 r.q :: .int .i64 r.l :: .int .u32 r.xe :: .int .u32 r.xq :: .slice A r.sn.length c :: .int .u64 r.s :: .int .u32 r.te :: .int .u32 r.tq :: .int .u32 r.be :: .int .u32 r.bq :: .int .i64 r.nx :: .int .i64 r.tt :: .int .i64 r.rt :: []) 34])) (fun T900529 => ?_) ?_
    · cases bz900523
      · skip
        refine p_off (by rw [hops900511]; rfl) rfl ?_
        refine p_off (by rw [hops900511]; rfl) rfl ?_
        refine p_off (by rw [hops900511]; rfl) rfl ?_
        refine p_off (by rw [hops900511]; rfl) rfl ?_
        refine p_off (by rw [hops900511]; rfl) rfl ?_
        refine p_run _ (x_pick false (undef) (.bool false) (.bool false) rfl rfl rfl rfl rfl) rfl ?_
        exact T900529 _ _ ⟨undef, undef, undef, ⟨uz32, uz33, uz34, uz35, .bool false, .bool false, undef, undef⟩, false, rfl, rfl, HS⟩
      · skip
        refine p_on rfl (by rw [hops900511]; rfl) ?_
        refine p_run _ (x_field (j := 3) _ _ rfl rfl Try.underlying34 rfl (by rfl) rfl) rfl ?_
        refine p_on rfl (by rw [hops900511]; rfl) ?_
        refine p_run _ (x_load (.int .u32 r.q) rfl rfl (bkCell (HS.get (.tail _ (.head _))) 3 _ rfl) (by rfl)) rfl ?_
        refine p_on rfl (by rw [hops900511]; rfl) ?_
        refine p_run _ (x_field (j := 3) _ _ rfl rfl Try.underlying34 rfl (by rfl) rfl) rfl ?_
        refine p_on rfl (by rw [hops900511]; rfl) ?_
        refine p_run _ (x_load (.int .u32 n.q) rfl rfl (bkCell (HS.get (.head _)) 3 _ rfl) (by rfl)) rfl ?_
        refine p_on rfl (by rw [hops900511]; rfl) ?_
        refine p_run _ (x_cmp (k := .u32) (m := r.q) (n := n.q) .eql (r.q == n.q) rfl rfl rfl rfl rfl) rfl ?_
        refine p_run _ (x_pick true (.bool (r.q == n.q)) (.bool false) (.bool (r.q == n.q)) rfl rfl rfl rfl rfl) rfl ?_
        exact T900529 _ _ ⟨(.pointer (some ⟨g18, 3, none⟩)), (.int .u32 n.q), (.bool (r.q == n.q)), ⟨uz32, uz33, uz34, uz35, .bool true, .bool true, .pointer (some ⟨g15, 3, none⟩), .int .u32 r.q⟩, (r.q == n.q), rfl, rfl, HS⟩
    clear HS
    rintro _ w_ ⟨uz40, uz41, uz42, qz900528, bz900527, rfl, hbz900527, HS⟩
    skip
    refine p_run _ (x_move (.bool bz900527) rfl rfl) rfl ?_
    refine p_tail 6 (fun a_ w_ => ∃ (uz48 uz49 : Value) (qz900532 : V8) (bz900531 : Bool), a_ = fr (rcV r A c :: rcV n A2 c2 :: .pointer (some ⟨g5, 0, none⟩) :: .pointer (some ⟨g8, 0, none⟩) :: .bool false :: .pointer (some ⟨g15, 0, none⟩) :: .pointer (some ⟨g18, 0, none⟩) :: rcV r A c :: V8.l qz900516 (V8.l qz900520 (V8.l qz900524 (V8.l qz900528 (V8.l qz900532 (uz48 :: uz49 :: .bool bz900531 :: U8k1 (U4k1 (undef :: undef :: [])))))))) ∧ bz900531 = (bz900527 && (r.l == n.l)) ∧ St w (fun _ => False) w_ ([blk g18 (.int .u32 n.e :: .bool n.p :: .int .u32 n.b :: .int .u32 n.q :: .int .i64 n.l :: .int .u32 n.xe :: .int .u32 n.xq :: .slice none 0 0 :: .int .u64 n.s :: .int .u32 n.te :: .int .u32 n.tq :: .int .u32 n.be :: .int .u32 n.bq :: .int .i64 n.nx :: .int .i64 n.tt :: .int .i64 n.rt :: []) 34, blk g15 (.int .u32 r.e :: .bool r.p :: .int .u32 r.b :: .int .u32 r.q :: .int .i64 r.l :: .int .u32 r.xe :: .int .u32 r.xq :: .slice none 0 0 :: .int .u64 r.s :: .int .u32 r.te :: .int .u32 r.tq :: .int .u32 r.be :: .int .u32 r.bq :: .int .i64 r.nx :: .int .i64 r.tt :: .int .i64 r.rt :: []) 34, blk g8 (.int .u32 n.e :: .bool n.p :: .int .u32 n.b :: .int .u32 n.q :: .int .i64 n.l :: .int .u32 n.xe :: .int .u32 n.xq :: .slice A2 n.sn.length c2 :: .int .u64 n.s :: .int .u32 n.te :: .int .u32 n.tq :: .int .u32 n.be :: .int .u32 n.bq :: .int .i64 n.nx :: .int .i64 n.tt :: .int .i64 n.rt :: []) 34, blk g5 (.int .u32 r.e :: .bool r.p :: .int .u32 r.b :: .int .u32 r.q :: .int .i64 r.l :: .int .u32 r.xe :: .int .u32 r.xq :: .slice A r.sn.length c :: .int .u64 r.s :: .int .u32 r.te :: .int .u32 r.tq :: .int .u32 r.be :: .int .u32 r.bq :: .int .i64 r.nx :: .int .i64 r.tt :: .int .i64 r.rt :: []) 34])) (fun T900533 => ?_) ?_
    · cases bz900527
      · skip
        refine p_off (by rw [hops900511]; rfl) rfl ?_
        refine p_off (by rw [hops900511]; rfl) rfl ?_
        refine p_off (by rw [hops900511]; rfl) rfl ?_
        refine p_off (by rw [hops900511]; rfl) rfl ?_
        refine p_off (by rw [hops900511]; rfl) rfl ?_
        refine p_run _ (x_pick false (undef) (.bool false) (.bool false) rfl rfl rfl rfl rfl) rfl ?_
        exact T900533 _ _ ⟨undef, undef, ⟨uz40, uz41, uz42, .bool false, .bool false, undef, undef, undef⟩, false, rfl, rfl, HS⟩
      · skip
        refine p_on rfl (by rw [hops900511]; rfl) ?_
        refine p_run _ (x_field (j := 4) _ _ rfl rfl Try.underlying34 rfl (by rfl) rfl) rfl ?_
        refine p_on rfl (by rw [hops900511]; rfl) ?_
        refine p_run _ (x_load (.int .i64 r.l) rfl rfl (bkCell (HS.get (.tail _ (.head _))) 4 _ rfl) (by rfl)) rfl ?_
        refine p_on rfl (by rw [hops900511]; rfl) ?_
        refine p_run _ (x_field (j := 4) _ _ rfl rfl Try.underlying34 rfl (by rfl) rfl) rfl ?_
        refine p_on rfl (by rw [hops900511]; rfl) ?_
        refine p_run _ (x_load (.int .i64 n.l) rfl rfl (bkCell (HS.get (.head _)) 4 _ rfl) (by rfl)) rfl ?_
        refine p_on rfl (by rw [hops900511]; rfl) ?_
        refine p_run _ (x_cmp (k := .i64) (m := r.l) (n := n.l) .eql (r.l == n.l) rfl rfl rfl rfl rfl) rfl ?_
        refine p_run _ (x_pick true (.bool (r.l == n.l)) (.bool false) (.bool (r.l == n.l)) rfl rfl rfl rfl rfl) rfl ?_
        exact T900533 _ _ ⟨(.int .i64 n.l), (.bool (r.l == n.l)), ⟨uz40, uz41, uz42, .bool true, .bool true, .pointer (some ⟨g15, 4, none⟩), .int .i64 r.l, .pointer (some ⟨g18, 4, none⟩)⟩, (r.l == n.l), rfl, rfl, HS⟩
    clear HS
    rintro _ w_ ⟨uz48, uz49, qz900532, bz900531, rfl, hbz900531, HS⟩
    skip
    refine p_run _ (x_move (.bool bz900531) rfl rfl) rfl ?_
    refine p_tail 6 (fun a_ w_ => ∃ (uz56 : Value) (qz900536 : V8) (bz900535 : Bool), a_ = fr (rcV r A c :: rcV n A2 c2 :: .pointer (some ⟨g5, 0, none⟩) :: .pointer (some ⟨g8, 0, none⟩) :: .bool false :: .pointer (some ⟨g15, 0, none⟩) :: .pointer (some ⟨g18, 0, none⟩) :: rcV r A c :: V8.l qz900516 (V8.l qz900520 (V8.l qz900524 (V8.l qz900528 (V8.l qz900532 (V8.l qz900536 (uz56 :: .bool bz900535 :: U4k1 (undef :: undef :: undef :: [])))))))) ∧ bz900535 = (bz900531 && (decide (r.xe = n.xe ∧ r.xq = n.xq))) ∧ St w (fun _ => False) w_ ([blk g18 (.int .u32 n.e :: .bool n.p :: .int .u32 n.b :: .int .u32 n.q :: .int .i64 n.l :: .int .u32 n.xe :: .int .u32 n.xq :: .slice none 0 0 :: .int .u64 n.s :: .int .u32 n.te :: .int .u32 n.tq :: .int .u32 n.be :: .int .u32 n.bq :: .int .i64 n.nx :: .int .i64 n.tt :: .int .i64 n.rt :: []) 34, blk g15 (.int .u32 r.e :: .bool r.p :: .int .u32 r.b :: .int .u32 r.q :: .int .i64 r.l :: .int .u32 r.xe :: .int .u32 r.xq :: .slice none 0 0 :: .int .u64 r.s :: .int .u32 r.te :: .int .u32 r.tq :: .int .u32 r.be :: .int .u32 r.bq :: .int .i64 r.nx :: .int .i64 r.tt :: .int .i64 r.rt :: []) 34, blk g8 (.int .u32 n.e :: .bool n.p :: .int .u32 n.b :: .int .u32 n.q :: .int .i64 n.l :: .int .u32 n.xe :: .int .u32 n.xq :: .slice A2 n.sn.length c2 :: .int .u64 n.s :: .int .u32 n.te :: .int .u32 n.tq :: .int .u32 n.be :: .int .u32 n.bq :: .int .i64 n.nx :: .int .i64 n.tt :: .int .i64 n.rt :: []) 34, blk g5 (.int .u32 r.e :: .bool r.p :: .int .u32 r.b :: .int .u32 r.q :: .int .i64 r.l :: .int .u32 r.xe :: .int .u32 r.xq :: .slice A r.sn.length c :: .int .u64 r.s :: .int .u32 r.te :: .int .u32 r.tq :: .int .u32 r.be :: .int .u32 r.bq :: .int .i64 r.nx :: .int .i64 r.tt :: .int .i64 r.rt :: []) 34])) (fun T900537 => ?_) ?_
    · cases bz900531
      · skip
        refine p_off (by rw [hops900511]; rfl) rfl ?_
        refine p_off (by rw [hops900511]; rfl) rfl ?_
        refine p_off (by rw [hops900511]; rfl) rfl ?_
        refine p_off (by rw [hops900511]; rfl) rfl ?_
        refine p_off (by rw [hops900511]; rfl) rfl ?_
        refine p_run _ (x_pick false (undef) (.bool false) (.bool false) rfl rfl rfl rfl rfl) rfl ?_
        exact T900537 _ _ ⟨undef, ⟨uz48, uz49, .bool false, .bool false, undef, undef, undef, undef⟩, false, rfl, rfl, HS⟩
      · skip
        refine p_on rfl (by rw [hops900511]; rfl) ?_
        refine p_run _ (x_field (j := 5) _ _ rfl rfl Try.underlying34 rfl (by rfl) rfl) rfl ?_
        refine p_on rfl (by rw [hops900511]; rfl) ?_
        refine p_run _ (x_loads [.int .u32 r.xe, .int .u32 r.xq] 2 rfl rfl (bkCells (HS.get (.tail _ (.head _))) 5 _ rfl) (by rfl) (by kernel_rfl) rfl) rfl ?_
        refine p_on rfl (by rw [hops900511]; rfl) ?_
        refine p_run _ (x_field (j := 5) _ _ rfl rfl Try.underlying34 rfl (by rfl) rfl) rfl ?_
        refine p_on rfl (by rw [hops900511]; rfl) ?_
        refine p_run _ (x_loads [.int .u32 n.xe, .int .u32 n.xq] 2 rfl rfl (bkCells (HS.get (.head _)) 5 _ rfl) (by rfl) (by kernel_rfl) rfl) rfl ?_
        refine p_on rfl (by rw [hops900511]; rfl) ?_
        refine p_run _ (x_eq .eql (.agg ([.int .u32 r.xe, .int .u32 r.xq] : List Value).toArray) (.agg ([.int .u32 n.xe, .int .u32 n.xq] : List Value).toArray) (decide (r.xe = n.xe ∧ r.xq = n.xq)) ((decide (r.xe = n.xe ∧ r.xq = n.xq))) rfl rfl rfl (equal_lb _ r.xe r.xq n.xe n.xq) rfl rfl (guard_agg (by kernel_rfl)) (guard_agg (by kernel_rfl))) rfl ?_
        refine p_run _ (x_pick true (.bool (decide (r.xe = n.xe ∧ r.xq = n.xq))) (.bool false) (.bool (decide (r.xe = n.xe ∧ r.xq = n.xq))) rfl rfl rfl rfl rfl) rfl ?_
        exact T900537 _ _ ⟨(.bool (decide (r.xe = n.xe ∧ r.xq = n.xq))), ⟨uz48, uz49, .bool true, .bool true, .pointer (some ⟨g15, 5, none⟩), .agg ([.int .u32 r.xe, .int .u32 r.xq] : List Value).toArray, .pointer (some ⟨g18, 5, none⟩), .agg ([.int .u32 n.xe, .int .u32 n.xq] : List Value).toArray⟩, (decide (r.xe = n.xe ∧ r.xq = n.xq)), rfl, rfl, HS⟩
    clear HS
    rintro _ w_ ⟨uz56, qz900536, bz900535, rfl, hbz900535, HS⟩
    skip
    refine p_run _ (x_move (.bool bz900535) rfl rfl) rfl ?_
    refine p_tail 6 (fun a_ w_ => ∃ (qz900540 : V8) (bz900539 : Bool), a_ = fr (rcV r A c :: rcV n A2 c2 :: .pointer (some ⟨g5, 0, none⟩) :: .pointer (some ⟨g8, 0, none⟩) :: .bool false :: .pointer (some ⟨g15, 0, none⟩) :: .pointer (some ⟨g18, 0, none⟩) :: rcV r A c :: V8.l qz900516 (V8.l qz900520 (V8.l qz900524 (V8.l qz900528 (V8.l qz900532 (V8.l qz900536 (V8.l qz900540 (.bool bz900539 :: [])))))))) ∧ bz900539 = (bz900535 && (decide (r.s = n.s ∧ (r.te = n.te ∧ r.tq = n.tq) ∧ (r.be = n.be ∧ r.bq = n.bq) ∧ r.nx = n.nx ∧ r.tt = n.tt ∧ r.rt = n.rt))) ∧ St w (fun _ => False) w_ ([blk g18 (.int .u32 n.e :: .bool n.p :: .int .u32 n.b :: .int .u32 n.q :: .int .i64 n.l :: .int .u32 n.xe :: .int .u32 n.xq :: .slice none 0 0 :: .int .u64 n.s :: .int .u32 n.te :: .int .u32 n.tq :: .int .u32 n.be :: .int .u32 n.bq :: .int .i64 n.nx :: .int .i64 n.tt :: .int .i64 n.rt :: []) 34, blk g15 (.int .u32 r.e :: .bool r.p :: .int .u32 r.b :: .int .u32 r.q :: .int .i64 r.l :: .int .u32 r.xe :: .int .u32 r.xq :: .slice none 0 0 :: .int .u64 r.s :: .int .u32 r.te :: .int .u32 r.tq :: .int .u32 r.be :: .int .u32 r.bq :: .int .i64 r.nx :: .int .i64 r.tt :: .int .i64 r.rt :: []) 34, blk g8 (.int .u32 n.e :: .bool n.p :: .int .u32 n.b :: .int .u32 n.q :: .int .i64 n.l :: .int .u32 n.xe :: .int .u32 n.xq :: .slice A2 n.sn.length c2 :: .int .u64 n.s :: .int .u32 n.te :: .int .u32 n.tq :: .int .u32 n.be :: .int .u32 n.bq :: .int .i64 n.nx :: .int .i64 n.tt :: .int .i64 n.rt :: []) 34, blk g5 (.int .u32 r.e :: .bool r.p :: .int .u32 r.b :: .int .u32 r.q :: .int .i64 r.l :: .int .u32 r.xe :: .int .u32 r.xq :: .slice A r.sn.length c :: .int .u64 r.s :: .int .u32 r.te :: .int .u32 r.tq :: .int .u32 r.be :: .int .u32 r.bq :: .int .i64 r.nx :: .int .i64 r.tt :: .int .i64 r.rt :: []) 34])) (fun T900541 => ?_) ?_
    · cases bz900535
      · skip
        refine p_off (by rw [hops900511]; rfl) rfl ?_
        refine p_off (by rw [hops900511]; rfl) rfl ?_
        refine p_off (by rw [hops900511]; rfl) rfl ?_
        refine p_off (by rw [hops900511]; rfl) rfl ?_
        refine p_off (by rw [hops900511]; rfl) rfl ?_
        refine p_run _ (x_pick false (undef) (.bool false) (.bool false) rfl rfl rfl rfl rfl) rfl ?_
        exact T900541 _ _ ⟨⟨uz56, .bool false, .bool false, undef, undef, undef, undef, undef⟩, false, rfl, rfl, HS⟩
      · skip
        refine p_on rfl (by rw [hops900511]; rfl) ?_
        refine p_run _ (x_field (j := 8) _ _ rfl rfl Try.underlying34 rfl (by rfl) rfl) rfl ?_
        refine p_on rfl (by rw [hops900511]; rfl) ?_
        refine p_run _ (x_loads [.int .u64 r.s, .int .u32 r.te, .int .u32 r.tq, .int .u32 r.be, .int .u32 r.bq, .int .i64 r.nx, .int .i64 r.tt, .int .i64 r.rt] 8 rfl rfl (bkCells (HS.get (.tail _ (.head _))) 8 _ rfl) (by rfl) (by kernel_rfl) rfl) rfl ?_
        refine p_on rfl (by rw [hops900511]; rfl) ?_
        refine p_run _ (x_field (j := 8) _ _ rfl rfl Try.underlying34 rfl (by rfl) rfl) rfl ?_
        refine p_on rfl (by rw [hops900511]; rfl) ?_
        refine p_run _ (x_loads [.int .u64 n.s, .int .u32 n.te, .int .u32 n.tq, .int .u32 n.be, .int .u32 n.bq, .int .i64 n.nx, .int .i64 n.tt, .int .i64 n.rt] 8 rfl rfl (bkCells (HS.get (.head _)) 8 _ rfl) (by rfl) (by kernel_rfl) rfl) rfl ?_
        refine p_on rfl (by rw [hops900511]; rfl) ?_
        refine p_run _ (x_eq .eql (.agg ([.int .u64 r.s, .int .u32 r.te, .int .u32 r.tq, .int .u32 r.be, .int .u32 r.bq, .int .i64 r.nx, .int .i64 r.tt, .int .i64 r.rt] : List Value).toArray) (.agg ([.int .u64 n.s, .int .u32 n.te, .int .u32 n.tq, .int .u32 n.be, .int .u32 n.bq, .int .i64 n.nx, .int .i64 n.tt, .int .i64 n.rt] : List Value).toArray) (decide (r.s = n.s ∧ (r.te = n.te ∧ r.tq = n.tq) ∧ (r.be = n.be ∧ r.bq = n.bq) ∧ r.nx = n.nx ∧ r.tt = n.tt ∧ r.rt = n.rt)) ((decide (r.s = n.s ∧ (r.te = n.te ∧ r.tq = n.tq) ∧ (r.be = n.be ∧ r.bq = n.bq) ∧ r.nx = n.nx ∧ r.tt = n.tt ∧ r.rt = n.rt))) rfl rfl rfl (equal_sg _ r.s r.te r.tq r.be r.bq r.nx r.tt r.rt n.s n.te n.tq n.be n.bq n.nx n.tt n.rt) rfl rfl (guard_agg (by kernel_rfl)) (guard_agg (by kernel_rfl))) rfl ?_
        refine p_run _ (x_pick true (.bool (decide (r.s = n.s ∧ (r.te = n.te ∧ r.tq = n.tq) ∧ (r.be = n.be ∧ r.bq = n.bq) ∧ r.nx = n.nx ∧ r.tt = n.tt ∧ r.rt = n.rt))) (.bool false) (.bool (decide (r.s = n.s ∧ (r.te = n.te ∧ r.tq = n.tq) ∧ (r.be = n.be ∧ r.bq = n.bq) ∧ r.nx = n.nx ∧ r.tt = n.tt ∧ r.rt = n.rt))) rfl rfl rfl rfl rfl) rfl ?_
        exact T900541 _ _ ⟨⟨uz56, .bool true, .bool true, .pointer (some ⟨g15, 8, none⟩), .agg ([.int .u64 r.s, .int .u32 r.te, .int .u32 r.tq, .int .u32 r.be, .int .u32 r.bq, .int .i64 r.nx, .int .i64 r.tt, .int .i64 r.rt] : List Value).toArray, .pointer (some ⟨g18, 8, none⟩), .agg ([.int .u64 n.s, .int .u32 n.te, .int .u32 n.tq, .int .u32 n.be, .int .u32 n.bq, .int .i64 n.nx, .int .i64 n.tt, .int .i64 n.rt] : List Value).toArray, .bool (decide (r.s = n.s ∧ (r.te = n.te ∧ r.tq = n.tq) ∧ (r.be = n.be ∧ r.bq = n.bq) ∧ r.nx = n.nx ∧ r.tt = n.tt ∧ r.rt = n.rt))⟩, (decide (r.s = n.s ∧ (r.te = n.te ∧ r.tq = n.tq) ∧ (r.be = n.be ∧ r.bq = n.bq) ∧ r.nx = n.nx ∧ r.tt = n.tt ∧ r.rt = n.rt)), rfl, rfl, HS⟩
    clear HS
    rintro _ w_ ⟨qz900540, bz900539, rfl, hbz900539, HS⟩
    skip
    refine p_run _ (x_assign (.bool bz900539) rfl rfl) rfl ?_
    clear hops900511
    refine wpList_nil ?_
    refine hK900510 _ _ ?_
    refine wp_ret ?_
    try simp only [Exit.inBlock, Exit.then]
    refine c_ret (.bool bz900539) (r_tmp rfl rfl) ?_
    have e1 : rcS r n = bz900539 := by unfold rcS; rw [hbz900539, hbz900535, hbz900531, hbz900527, hbz900523, hbz900519, hbz900515, hbz900514]
    rw [e1]
    exact ⟨rfl, HS.belowOf⟩
end Go.Proofs.Ytkiiangookibnaa
