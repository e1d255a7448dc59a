/- record's Find, Roots; the document's Roots, SameInts. -/
import Derived.Test.YtkiiangookibnaaZRecordTellsRk1
import Derived.Test.YtkiiangookibnaaZRecordTellsWkSS
set_option linter.unusedVariables false
set_option linter.unusedSimpArgs false
namespace Go.Proofs.Ytkiiangookibnaa
open Go.RowKit Go.Proofs.YtkiiangookibnaaW.PrintWords Go.Proofs.YtkiiangookibnaaW.PrintLast
abbrev U4k4 (l : List Value) : List Value := undef :: undef :: undef :: undef :: l
abbrev U8k4 (l : List Value) : List Value := U4k4 (U4k4 l)
abbrev U16k4 (l : List Value) : List Value := U8k4 (U8k4 l)
abbrev U32k4 (l : List Value) : List Value := U16k4 (U16k4 l)
def fdS (l : List Sn) (a b : Int) : Option Sn := l.find? fun x => decide (x.1 = a ∧ x.2.1 = b)
def fdO (l : List Sn) (a b : Int) : Sn := (fdS l a b).getD (0, 0, 0, 0)
def fdB (l : List Sn) (a b : Int) : Bool := (fdS l a b).isSome
theorem fd_hit {l : List Sn} {a b : Int} {x : Sn} (h : decide (x.1 = a ∧ x.2.1 = b) = true) : fdS (x :: l) a b = some x := by unfold fdS; rw [List.find?_cons, h]
theorem fd_miss {l : List Sn} {a b : Int} {x : Sn} (h : decide (x.1 = a ∧ x.2.1 = b) = false) : fdS (x :: l) a b = fdS l a b := by unfold fdS; rw [List.find?_cons, h]
def flt (l : List Int) : List Int := l.filter fun x => decide (x ≠ -1)
def rtsL (r : Rc) : List Int := flt (r.l :: (r.sn.map (·.2.2.1) ++ [r.rt]))
theorem flt_app (l m : List Int) : flt (l ++ m) = flt l ++ flt m := List.filter_append ..
theorem flt_yes {x : Int} (h : x ≠ -1) : flt [x] = [x] := by unfold flt; rw [List.filter_cons, decide_eq_true h]; rfl
theorem flt_no {x : Int} (h : x = -1) : flt [x] = [] := by subst h; rfl
theorem rt_snoc {l : List Sn} {j : Nat} {x : Sn} (hx : l[j]? = some x) : (l.take (j + 1)).map (·.2.2.1) = (l.take j).map (·.2.2.1) ++ [x.2.2.1] := by
  obtain ⟨hj, rfl⟩ := List.getElem?_eq_some_iff.1 hx
  rw [List.take_succ_eq_append_getElem hj, List.map_append]
  rfl
theorem lss_no {a b : Int} (h : ¬ a < b) : cmpB .lss a b = false := decide_eq_false h
theorem eqlI {a b : Int} (h : ¬ a = b) : cmpB .eql a b = false := by simp [cmpB, h]
theorem ii_cell {w : World} {ad : Addr} {n j : Nat} {ps : List Int} {x : Int} (h : (Kd.int .i64).C w (some ad) n ps) (hx : ps[j]? = some x) : w.cell? (ad.add (j * 1)) = some (.int .i64 x) := by
  obtain ⟨a', y, e, hy, hc⟩ := ii_get h j (List.getElem?_eq_some_iff.1 hx).1
  obtain rfl := Option.some.inj e
  obtain rfl := Option.some.inj (hy.symm.trans hx)
  exact hc
theorem int_row {w : World} {g e c : Nat} {zs : List Int} {sp : List Value} (h : (blk g (nums .i64 zs ++ sp) e).holds w) (hc : c = zs.length + sp.length) (hm : c ≤ 9223372036854775807) : (row (Kd.int .i64) rfl e (.slice (some ⟨g, 0, none⟩) zs.length c) zs).holds w := by
  have hg : w.heap[g]? = some (.cells (nums .i64 zs ++ sp).toArray e (0, 0)) := h
  have ho : w.ownsRow 0 e 1 (.slice (some ⟨g, 0, none⟩) zs.length c) zs.length (nums .i64 zs) :=
    ⟨by simp [nums], .inr ⟨g, c, _, rfl, Nat.zero_le _, hg, by omega, by simpa [maxLen] using hm, by simp [nums, hc], by rw [List.toList_toArray, List.take_left' (by simp [nums])]⟩⟩
  exact rowOf_ (Kd.R_of_own (h1 := fun _ => rfl) ho (ok := fun _ => True) (fun _ _ => trivial))
theorem int_blk {w : World} {e : Nat} {v : Value} {xs : List Int} (h : (row (Kd.int .i64) rfl e v xs).holds w) (hn : 0 < xs.length) : ∃ g c sp, v = .slice (some ⟨g, 0, none⟩) xs.length c ∧ (blk g (nums .i64 xs ++ sp) e).holds w ∧ c = xs.length + sp.length ∧ c ≤ 9223372036854775807 := by
  have ho := Kd.own_of_R (row_own h)
  rcases ho.2 with ⟨-, h0⟩ | ⟨g', cap', cur, rfl, hge, hg', hnc, hcm, hcs, htake⟩
  · omega
  · have e1 : nums .i64 xs = cur.toList.take (xs.length * 1) := by rw [htake]; simp [nums, encs]
    refine ⟨g', cap', cur.toList.drop (xs.length * 1), rfl, ?_, ?_, by simpa [maxLen] using hcm⟩
    · rw [e1, List.take_append_drop]
      show w.heap[g']? = _
      simpa using hg'
    · have hl : cur.toList.length = cap' := by rw [Array.length_toList, hcs]; omega
      rw [List.length_drop, hl]
      show cap' = xs.length + (cap' - xs.length * 1)
      omega
section
variable {w0 W : World} {F : Nat → Prop} {L : List Res} {q : Nat} {la lq : Int}
set_option maxRecDepth 10000 in
theorem find1_any (HS : St w0 F W (blk q [.int .u32 la, .int .u32 lq] 28 :: L)) (x : Sn) : Calls Try.prog 40 #[.agg ([.int .u32 x.1, .int .u32 x.2.1, .int .i64 x.2.2.1, .int .u32 x.2.2.2] : List Value).toArray, .pointer (some ⟨q, 0, none⟩)] W fun e w' => e = .returned (.bool (decide (x.1 = la ∧ x.2.1 = lq))) ∧ St w0 F w' (blk q [.int .u32 la, .int .u32 lq] 28 :: L) := by
  skip
  · skip
    refine c_enter Try.func40 rfl 8 rfl [.agg ([.int .u32 x.1, .int .u32 x.2.1, .int .i64 x.2.2.1, .int .u32 x.2.2.2] : List Value).toArray, .pointer (some ⟨q, 0, none⟩), undef, undef, undef, undef, undef, undef] rfl ?_
    refine wp_seq_k (fun K1 hK2 => ?_)
    refine c_region (fun ops4 hops3 => ?_)
    clear hops3
    refine St.wBox HS (cs := [.int .u32 x.1, .int .u32 x.2.1, .int .i64 x.2.2.1, .int .u32 x.2.2.2]) (.agg ([.int .u32 x.1, .int .u32 x.2.1, .int .i64 x.2.2.1, .int .u32 x.2.2.2] : List Value).toArray) rfl rfl ?_
    clear HS
    intro g5 w6 hg7 HS
    refine p_run _ (x_assign (.bool false) rfl rfl) rfl ?_
    refine wpList_nil ?_
    refine hK2 _ _ ?_
    refine wp_seq_k (fun K8 hK9 => ?_)
    refine c_region (fun ops11 hops10 => ?_)
    clear hops10
    refine p_run _ (x_field (j := 0) _ _ rfl rfl Try.underlying48 rfl (by rfl) rfl) rfl ?_
    refine p_run _ (x_loads [.int .u32 x.1, .int .u32 x.2.1] 2 rfl rfl (bkCells (HS.get (.head _)) 0 _ rfl) (by rfl) (by kernel_rfl) rfl) rfl ?_
    refine p_run _ (x_loads [.int .u32 la, .int .u32 lq] 2 rfl rfl (bkCells (HS.get (.tail _ (.head _))) 0 _ rfl) (by rfl) (by kernel_rfl) rfl) rfl ?_
    refine p_run _ (x_eq .eql (.agg ([.int .u32 x.1, .int .u32 x.2.1] : List Value).toArray) (.agg ([.int .u32 la, .int .u32 lq] : List Value).toArray) (decide (x.1 = la ∧ x.2.1 = lq)) ((decide (x.1 = la ∧ x.2.1 = lq))) rfl rfl rfl (equal_lb _ x.1 x.2.1 la lq) rfl rfl (guard_agg (by kernel_rfl)) (guard_agg (by kernel_rfl))) rfl ?_
    refine p_run (l' := [.agg ([.int .u32 x.1, .int .u32 x.2.1, .int .i64 x.2.2.1, .int .u32 x.2.2.2] : List Value).toArray, .pointer (some ⟨q, 0, none⟩), .pointer (some ⟨g5, 0, none⟩), .bool (decide (x.1 = la ∧ x.2.1 = lq)), .pointer (some ⟨g5, 0, none⟩), .agg ([.int .u32 x.1, .int .u32 x.2.1] : List Value).toArray, .agg ([.int .u32 la, .int .u32 lq] : List Value).toArray, .bool (decide (x.1 = la ∧ x.2.1 = lq))]) _ (x_assign (.bool (decide (x.1 = la ∧ x.2.1 = lq))) rfl rfl) rfl ?_
    refine wpList_nil ?_
    refine hK9 _ _ ?_
    refine wp_ret ?_
    try simp only [Exit.inBlock, Exit.then]
    refine c_ret (.bool (decide (x.1 = la ∧ x.2.1 = lq))) (r_tmp rfl rfl) ?_
    exact ⟨rfl, HS.drop⟩
end
section
variable {w W : World} {L : List Res} {q : Nat} {la lq : Int}
set_option maxRecDepth 10000 in
set_option maxHeartbeats 1000000 in
theorem idxS_any (HS : St w (fun _ => False) W (blk q [.int .u32 la, .int .u32 lq] 28 :: L)) (A : Option Addr) (c : Nat) (l : List Sn) (hr : kSn.C w A l.length l) (hl : l.length ≤ 1000) : Calls Try.prog 39 #[.slice A l.length c, .func (.func 40) #[] [.pointer (some ⟨q, 0, none⟩)].toArray] W fun e w' => ∃ r : Int, e = .returned (.int .i64 r) ∧ ((r = -1 ∧ fdS l la lq = none) ∨ ∃ (j : Nat) (x : Sn), r = (j : Int) ∧ l[j]? = some x ∧ fdS l la lq = some x) ∧ St w (fun _ => False) w' (blk q [.int .u32 la, .int .u32 lq] 28 :: L) := by
  skip
  · skip
    refine c_enter Try.func39 rfl 19 rfl (.slice A l.length c :: .func (.func 40) #[] [.pointer (some ⟨q, 0, none⟩)].toArray :: U16k4 (undef :: [])) rfl ?_
    refine wp_seq_k (fun K1 hK2 => ?_)
    refine c_region (fun ops4 hops3 => ?_)
    clear hops3
    refine p_run _ (x_assign (.int .i64 0) rfl rfl) rfl ?_
    refine wpList_nil ?_
    refine hK2 _ _ ?_
    refine wp_seq_k (fun K5 hK6 => ?_)
    refine wp_seq_k (fun K7 hK8 => ?_)
    refine c_region (fun ops10 hops9 => ?_)
    clear hops9
    refine p_run _ (x_move (.slice A l.length c) rfl rfl) rfl ?_
    refine p_run _ (x_len rfl rfl Try.underlying29) rfl ?_
    refine p_run _ (x_move (.int .i64 0) rfl rfl) rfl ?_
    refine wpList_nil ?_
    refine fr_at (l' := (.slice A l.length c :: .func (.func 40) #[] [.pointer (some ⟨q, 0, none⟩)].toArray :: undef :: undef :: .int .i64 0 :: undef :: .slice A l.length c :: .int .i64 (l.length : Int) :: .int .i64 0 :: U8k4 (undef :: undef :: []))) rfl ?_
    refine hK8 _ _ ?_
    refine wp_block ?_
    refine c_loop (ι := Nat) (fun i_ a_ w_ => match i_ with | j => ∃ (u4 : Value) (u5 : Value) (u9 : Value) (u10 : Value) (u11 : Value) (u12 : Value) (u13 : Value) (u14 : Value) (u15 : Value) (u16 : Value) (u17 : Value) (u18 : Value), a_ = fr (.slice A l.length c :: .func (.func 40) #[] [.pointer (some ⟨q, 0, none⟩)].toArray :: undef :: undef :: u4 :: u5 :: .slice A l.length c :: .int .i64 (l.length : Int) :: .int .i64 (j : Int) :: u9 :: u10 :: u11 :: u12 :: u13 :: u14 :: u15 :: u16 :: u17 :: u18 :: []) ∧ St w (fun _ => False) w_ (blk q [.int .u32 la, .int .u32 lq] 28 :: L) ∧ (j ≤ l.length ∧ fdS l la lq = fdS (l.drop j) la lq)) (fun i_ => match i_ with | j => l.length - j) 0 ?_ ?_
    · exact ⟨_, _, _, _, _, _, _, _, _, _, _, _, rfl, HS, ⟨Nat.zero_le _, rfl⟩⟩
    · clear HS
      rintro j a_ w13 ⟨u4, u5, u9, u10, u11, u12, u13, u14, u15, u16, u17, u18, rfl, HS, hI⟩ J11 hJ12
      obtain ⟨hjl, hI⟩ := hI
      refine wp_seq_k (fun K14 hK15 => ?_)
      refine c_region (fun ops17 hops16 => ?_)
      clear hops16
      refine p_run _ (x_cmp (k := .i64) (m := (j : Int)) (n := (l.length : Int)) .lss (decide ((j : Int) < (l.length : Int))) rfl rfl rfl rfl rfl) rfl ?_
      refine wpList_nil ?_
      refine hK15 _ _ ?_
      refine wp_seq_k (fun K18 hK19 => ?_)
      refine c_cond (t := decide ((j : Int) < (l.length : Int))) rfl (fun hc20 => ?_) (fun hc20 => ?_)
      · have hlt : j < l.length := by have := of_decide_eq_true hc20; omega
        obtain ⟨ad, x, rfl, hx, -⟩ := sn_get (Kd.C_below hr HS.belowOf) j hlt
        rw [drop_at hx] at hI
        refine wp_skip ?_
        refine hK19 _ _ ?_
        refine wp_seq_k (fun K21 hK22 => ?_)
        refine wp_block ?_
        refine wp_seq_k (fun K23 hK24 => ?_)
        refine c_region (fun ops26 hops25 => ?_)
        clear hops25
        refine p_run _ (x_move (.int .i64 (j : Int)) rfl rfl) rfl ?_
        refine p_run _ (x_assign (.int .i64 (j : Int)) rfl rfl) rfl ?_
        refine wpList_nil ?_
        refine hK24 _ _ ?_
        refine wp_seq_k (fun K27 hK28 => ?_)
        refine c_region (fun ops30 hops29 => ?_)
        clear hops29
        refine p_run _ (x_move (.func (.func 40) #[] [.pointer (some ⟨q, 0, none⟩)].toArray) rfl rfl) rfl ?_
        refine p_run _ (x_move (.slice (some ad) l.length c) rfl rfl) rfl ?_
        refine p_run _ (x_move (.int .i64 (j : Int)) rfl rfl) rfl ?_
        refine p_run (l' := (.slice (some ad) l.length c :: .func (.func 40) #[] [.pointer (some ⟨q, 0, none⟩)].toArray :: undef :: undef :: u4 :: .int .i64 (j : Int) :: .slice (some ad) l.length c :: .int .i64 (l.length : Int) :: .int .i64 (j : Int) :: .bool (decide ((j : Int) < (l.length : Int))) :: .int .i64 (j : Int) :: .func (.func 40) #[] [.pointer (some ⟨q, 0, none⟩)].toArray :: .slice (some ad) l.length c :: .int .i64 (j : Int) :: .pointer (some ((ad).add (j * 4))) :: u15 :: u16 :: u17 :: u18 :: [])) _ (x_index (A := ad) (j := j * 4) (sz := 4) rfl rfl rfl Try.underlying29 (by kernel_rfl) (by omega) rfl) rfl ?_
        refine p_run _ (x_loads [.int .u32 x.1, .int .u32 x.2.1, .int .i64 x.2.2.1, .int .u32 x.2.2.2] 4 rfl rfl (sn_cells (Kd.C_below hr HS.belowOf) hx) (by rfl) (by kernel_rfl) rfl) rfl ?_
        refine w_callv [.agg ([.int .u32 x.1, .int .u32 x.2.1, .int .i64 x.2.2.1, .int .u32 x.2.2.2] : List Value).toArray] [.pointer (some ⟨q, 0, none⟩)] rfl Try.func40 (by kernel_rfl) (by rfl) rfl ?_
        refine (find1_any HS x).mono ?_
        clear HS
        rintro e w31 ⟨rfl, HS⟩
        refine ⟨_, rfl, ?_⟩
        refine wpList_nil ?_
        refine hK28 _ _ ?_
        refine c_cond (t := (decide (x.1 = la ∧ x.2.1 = lq))) rfl (fun hc32 => ?_) (fun hc32 => ?_)
        · rw [fd_hit hc32] at hI
          refine wp_seq_k (fun K33 hK34 => ?_)
          refine c_region (fun ops36 hops35 => ?_)
          clear hops35
          refine p_run _ (x_move (.int .i64 (j : Int)) rfl rfl) rfl ?_
          refine p_run _ (x_assign (.int .i64 (j : Int)) rfl rfl) rfl ?_
          refine wpList_nil ?_
          refine fr_at (l' := (.slice (some ad) l.length c :: .func (.func 40) #[] [.pointer (some ⟨q, 0, none⟩)].toArray :: undef :: undef :: .int .i64 (j : Int) :: .int .i64 (j : Int) :: .slice (some ad) l.length c :: .int .i64 (l.length : Int) :: .int .i64 (j : Int) :: .bool (decide ((j : Int) < (l.length : Int))) :: .int .i64 (j : Int) :: .func (.func 40) #[] [.pointer (some ⟨q, 0, none⟩)].toArray :: .slice (some ad) l.length c :: .int .i64 (j : Int) :: .pointer (some ((ad).add (j * 4))) :: .agg ([.int .u32 x.1, .int .u32 x.2.1, .int .i64 x.2.2.1, .int .u32 x.2.2.2] : List Value).toArray :: .bool (decide (x.1 = la ∧ x.2.1 = lq)) :: .int .i64 (j : Int) :: u18 :: [])) rfl ?_
          refine hK34 _ _ ?_
          refine wp_ret ?_
          try simp only [Exit.inBlock, Exit.then]
          refine c_ret (.int .i64 (j : Int)) (r_tmp rfl rfl) ?_
          exact ⟨_, rfl, .inr ⟨j, x, rfl, hx, hI⟩, HS⟩
        · rw [fd_miss hc32] at hI
          refine wp_skip ?_
          refine hK22 _ _ ?_
          refine c_region (fun ops38 hops37 => ?_)
          clear hops37
          refine p_run _ (x_arith (k := .i64) (m := (j : Int)) (n := 1) .add (((j + 1 : Nat) : Int)) rfl rfl rfl (show IntKind.i64.wrap ((j : Int) + 1) = ((j + 1 : Nat) : Int) from ((wr64' (by omega)).trans (by omega))) rfl) rfl ?_
          refine p_run _ (x_move (.int .i64 ((j + 1 : Nat) : Int)) rfl rfl) rfl ?_
          refine wpList_nil ?_
          refine fr_at (l' := (.slice (some ad) l.length c :: .func (.func 40) #[] [.pointer (some ⟨q, 0, none⟩)].toArray :: undef :: undef :: u4 :: .int .i64 (j : Int) :: .slice (some ad) l.length c :: .int .i64 (l.length : Int) :: .int .i64 ((j + 1 : Nat) : Int) :: .bool (decide ((j : Int) < (l.length : Int))) :: .int .i64 (j : Int) :: .func (.func 40) #[] [.pointer (some ⟨q, 0, none⟩)].toArray :: .slice (some ad) l.length c :: .int .i64 (j : Int) :: .pointer (some ((ad).add (j * 4))) :: .agg ([.int .u32 x.1, .int .u32 x.2.1, .int .i64 x.2.2.1, .int .u32 x.2.2.2] : List Value).toArray :: .bool (decide (x.1 = la ∧ x.2.1 = lq)) :: u17 :: .int .i64 ((j + 1 : Nat) : Int) :: [])) rfl ?_
          refine hJ12 (j + 1) _ _ ?_ ?_
          · show l.length - (j + 1) < l.length - j; omega
          · exact ⟨_, _, _, _, _, _, _, _, _, _, _, _, rfl, HS, ⟨by omega, hI⟩⟩
      · have hlt : j = l.length := by have := of_decide_eq_false hc20; omega
        subst hlt
        refine wp_exit ?_
        refine hK6 _ _ ?_
        refine wp_seq_k (fun K39 hK40 => ?_)
        refine c_region (fun ops42 hops41 => ?_)
        clear hops41
        refine p_run _ (x_assign (.int .i64 (-1)) rfl rfl) rfl ?_
        refine wpList_nil ?_
        refine hK40 _ _ ?_
        refine wp_ret ?_
        try simp only [Exit.inBlock, Exit.then]
        refine c_ret (.int .i64 (-1)) (r_tmp rfl rfl) ?_
        exact ⟨_, rfl, .inl ⟨rfl, by rw [hI, List.drop_length]; rfl⟩, HS⟩
end
set_option maxRecDepth 10000 in
set_option maxHeartbeats 1000000 in
theorem rfind_any (w : World) (r : Rc) (A : Option Addr) (c : Nat) (hA : kSn.C w A r.sn.length r.sn) (hl : r.sn.length ≤ 1000) (a b : Int) : Calls Try.prog 17 #[rcV r A c, .agg ([.int .u32 a, .int .u32 b] : List Value).toArray] w fun e w' => e = .returned (.tuple #[.agg (snC (fdO r.sn a b)).toArray, .bool (fdB r.sn a b)]) ∧ Below w.heap.size w w' := by
  have HS := St.empty w
  · skip
    refine c_enter Try.func17 rfl 19 rfl (rcV r A c :: .agg ([.int .u32 a, .int .u32 b] : List Value).toArray :: U16k4 (undef :: [])) rfl ?_
    refine wp_seq_k (fun K1 hK2 => ?_)
    refine c_region (fun ops4 hops3 => ?_)
    clear hops3
    refine St.wBox HS (cs := (.int .u32 r.e :: .bool r.p :: .int .u32 r.b :: .int .u32 r.q :: .int .i64 r.l :: .int .u32 r.xe :: .int .u32 r.xq :: .slice A r.sn.length c :: .int .u64 r.s :: .int .u32 r.te :: .int .u32 r.tq :: .int .u32 r.be :: .int .u32 r.bq :: .int .i64 r.nx :: .int .i64 r.tt :: .int .i64 r.rt :: [])) (rcV r A c) rfl rfl ?_
    clear HS
    intro g5 w6 hg7 HS
    refine St.wBox HS (cs := [.int .u32 a, .int .u32 b]) (.agg ([.int .u32 a, .int .u32 b] : List Value).toArray) rfl rfl ?_
    clear HS
    intro g8 w9 hg10 HS
    refine St.wAlloc HS (cs := [.int .u32 0, .int .u32 0, .int .i64 0, .int .u32 0]) (.agg [.int .u32 0, .int .u32 0, .int .i64 0, .int .u32 0].toArray) (by kernel_rfl) rfl ?_
    clear HS
    intro g11 w12 hg13 HS
    refine p_run _ (x_assign (.bool false) rfl rfl) rfl ?_
    refine wpList_nil ?_
    refine fr_at (l' := (rcV r A c :: .agg ([.int .u32 a, .int .u32 b] : List Value).toArray :: .pointer (some ⟨g5, 0, none⟩) :: .pointer (some ⟨g8, 0, none⟩) :: .pointer (some ⟨g11, 0, none⟩) :: .bool false :: U8k4 (U4k4 (undef :: [])))) rfl ?_
    refine hK2 _ _ ?_
    refine wp_seq_k (fun K14 hK15 => ?_)
    refine c_region (fun ops17 hops16 => ?_)
    clear hops16
    refine p_run _ (x_field (j := 7) _ _ rfl rfl Try.underlying34 rfl (by rfl) rfl) rfl ?_
    refine p_run _ (x_load (.slice A r.sn.length c) rfl rfl (bkCell (HS.get (.tail _ (.tail _ (.head _)))) 7 _ rfl) (by rfl)) rfl ?_
    refine p_run _ (x_funcs [.pointer (some ⟨g8, 0, none⟩)] rfl rfl) rfl ?_
    refine w_call [.slice A r.sn.length c, .func (.func 40) #[] [.pointer (some ⟨g8, 0, none⟩)].toArray] Try.func39 (by kernel_rfl) (by rfl) rfl ?_
    replace HS := (HS.front 1 rfl)
    refine (idxS_any HS A c r.sn hA hl).mono ?_
    clear HS
    rintro e w18 ⟨ri, rfl, hri, HS⟩
    refine ⟨_, rfl, ?_⟩
    refine p_run _ (x_assign (.int .i64 ri) rfl rfl) rfl ?_
    refine wpList_nil ?_
    refine fr_at (l' := (rcV r A c :: .agg ([.int .u32 a, .int .u32 b] : List Value).toArray :: .pointer (some ⟨g5, 0, none⟩) :: .pointer (some ⟨g8, 0, none⟩) :: .pointer (some ⟨g11, 0, none⟩) :: .bool false :: .int .i64 ri :: .pointer (some ⟨g5, 7, none⟩) :: .slice A r.sn.length c :: .func (.func 40) #[] [.pointer (some ⟨g8, 0, none⟩)].toArray :: .int .i64 ri :: U8k4 ([]))) rfl ?_
    refine hK15 _ _ ?_
    refine wp_seq_k (fun K19 hK20 => ?_)
    refine wp_seq_k (fun K21 hK22 => ?_)
    rcases hri with ⟨h1, h2⟩ | ⟨j, x, h1, hx, h2⟩
    · skip
      subst h1
      refine c_region (fun ops24 hops23 => ?_)
      clear hops23
      refine p_run _ (x_move (.int .i64 (-1)) rfl rfl) rfl ?_
      refine p_run _ (x_cmp (k := .i64) (m := (-1)) (n := 0) .lss true rfl rfl rfl (by decide) rfl) rfl ?_
      refine wpList_nil ?_
      refine hK22 _ _ ?_
      refine c_true rfl ?_
      refine wp_seq_k (fun K25 hK26 => ?_)
      refine c_region (fun ops28 hops27 => ?_)
      clear hops27
      refine p_run _ (x_build [.int .u32 0, .int .u32 0, .int .i64 0, .int .u32 0] rfl (by kernel_rfl)) rfl ?_
      refine St.stores (cs' := [.int .u32 0, .int .u32 0, .int .i64 0, .int .u32 0]) (HS.front 1 rfl) [.int .u32 0, .int .u32 0, .int .i64 0, .int .u32 0] 4 rfl rfl (by rfl) (by kernel_rfl) rfl (by simp) rfl ?_
      clear HS
      intro w29 HS
      refine p_run _ (x_assign (.bool false) rfl rfl) rfl ?_
      refine wpList_nil ?_
      refine fr_at (l' := (rcV r A c :: .agg ([.int .u32 a, .int .u32 b] : List Value).toArray :: .pointer (some ⟨g5, 0, none⟩) :: .pointer (some ⟨g8, 0, none⟩) :: .pointer (some ⟨g11, 0, none⟩) :: .bool false :: .int .i64 (-1) :: .pointer (some ⟨g5, 7, none⟩) :: .slice A r.sn.length c :: .func (.func 40) #[] [.pointer (some ⟨g8, 0, none⟩)].toArray :: .int .i64 (-1) :: .int .i64 (-1) :: .bool true :: .agg ([.int .u32 0, .int .u32 0, .int .i64 0, .int .u32 0] : List Value).toArray :: U4k4 (undef :: []))) rfl ?_
      refine hK26 _ _ ?_
      refine wp_ret ?_
      try simp only [Exit.inBlock, Exit.then]
      refine c_ret (.tuple [.agg ([.int .u32 0, .int .u32 0, .int .i64 0, .int .u32 0] : List Value).toArray, .bool false].toArray) (r_ct rfl rfl (run_loadVar_aggn (by rfl) [.int .u32 0, .int .u32 0, .int .i64 0, .int .u32 0] 4 (by kernel_rfl) rfl (bkCells (HS.get (.head _)) 0 _ (whole _))) rfl) ?_
      have e1 : fdO r.sn a b = (0, 0, 0, 0) := by unfold fdO; rw [h2]; rfl
      have e2 : fdB r.sn a b = false := by unfold fdB; rw [h2]; rfl
      rw [e1, e2]
      exact ⟨rfl, HS.belowOf⟩
    · skip
      subst h1
      obtain ⟨ad, x', rfl, hx', -⟩ := sn_get (Kd.C_below hA HS.belowOf) j (List.getElem?_eq_some_iff.1 hx).1
      refine c_region (fun ops31 hops30 => ?_)
      clear hops30
      refine p_run _ (x_move (.int .i64 (j : Int)) rfl rfl) rfl ?_
      refine p_run _ (x_cmp (k := .i64) (m := (j : Int)) (n := 0) .lss false rfl rfl rfl (lss_no (by omega)) rfl) rfl ?_
      refine wpList_nil ?_
      refine hK22 _ _ ?_
      refine c_false rfl ?_
      refine wp_skip ?_
      refine hK20 _ _ ?_
      refine wp_seq_k (fun K32 hK33 => ?_)
      refine c_region (fun ops35 hops34 => ?_)
      clear hops34
      refine p_run _ (x_field (j := 7) _ _ rfl rfl Try.underlying34 rfl (by rfl) rfl) rfl ?_
      refine p_run _ (x_load (.slice (some ad) r.sn.length c) rfl rfl (bkCell (HS.get (.tail _ (.tail _ (.head _)))) 7 _ rfl) (by rfl)) rfl ?_
      refine p_run _ (x_move (.int .i64 (j : Int)) rfl rfl) rfl ?_
      refine p_run _ (x_index (A := ad) (j := j * 4) (sz := 4) rfl rfl rfl Try.underlying29 (by kernel_rfl) (by have := (List.getElem?_eq_some_iff.1 hx).1; omega) rfl) rfl ?_
      refine p_run (l' := (rcV r (some ad) c :: .agg ([.int .u32 a, .int .u32 b] : List Value).toArray :: .pointer (some ⟨g5, 0, none⟩) :: .pointer (some ⟨g8, 0, none⟩) :: .pointer (some ⟨g11, 0, none⟩) :: .bool false :: .int .i64 (j : Int) :: .pointer (some ⟨g5, 7, none⟩) :: .slice (some ad) r.sn.length c :: .func (.func 40) #[] [.pointer (some ⟨g8, 0, none⟩)].toArray :: .int .i64 (j : Int) :: .int .i64 (j : Int) :: .bool false :: undef :: .pointer (some ⟨g5, 7, none⟩) :: .slice (some ad) r.sn.length c :: .int .i64 (j : Int) :: .pointer (some ((ad).add (j * 4))) :: .agg ([.int .u32 x.1, .int .u32 x.2.1, .int .i64 x.2.2.1, .int .u32 x.2.2.2] : List Value).toArray :: [])) _ (x_loads [.int .u32 x.1, .int .u32 x.2.1, .int .i64 x.2.2.1, .int .u32 x.2.2.2] 4 rfl rfl (sn_cells (Kd.C_below hA HS.belowOf) hx) (by rfl) (by kernel_rfl) rfl) rfl ?_
      refine St.stores (cs' := [.int .u32 x.1, .int .u32 x.2.1, .int .i64 x.2.2.1, .int .u32 x.2.2.2]) (HS.front 1 rfl) [.int .u32 x.1, .int .u32 x.2.1, .int .i64 x.2.2.1, .int .u32 x.2.2.2] 4 rfl rfl (by rfl) (by kernel_rfl) rfl (by simp) rfl ?_
      clear HS
      intro w36 HS
      refine p_run _ (x_assign (.bool true) rfl rfl) rfl ?_
      refine wpList_nil ?_
      refine hK33 _ _ ?_
      refine wp_ret ?_
      try simp only [Exit.inBlock, Exit.then]
      refine c_ret (.tuple [.agg ([.int .u32 x.1, .int .u32 x.2.1, .int .i64 x.2.2.1, .int .u32 x.2.2.2] : List Value).toArray, .bool true].toArray) (r_ct rfl rfl (run_loadVar_aggn (by rfl) [.int .u32 x.1, .int .u32 x.2.1, .int .i64 x.2.2.1, .int .u32 x.2.2.2] 4 (by kernel_rfl) rfl (bkCells (HS.get (.head _)) 0 _ (whole _))) rfl) ?_
      have e1 : fdO r.sn a b = x := by unfold fdO; rw [h2]; rfl
      have e2 : fdB r.sn a b = true := by unfold fdB; rw [h2]; rfl
      rw [e1, e2]
      exact ⟨rfl, HS.belowOf⟩
set_option maxRecDepth 10000 in
theorem del1_any (w : World) (x : Int) : Calls Try.prog 46 #[.int .i64 x] w fun e w' => e = .returned (.bool (x == -1)) ∧ Below w.heap.size w w' := by
  have HS := St.empty w
  · skip
    refine c_enter Try.func46 rfl 5 rfl [.int .i64 x, undef, undef, undef, undef] rfl ?_
    refine wp_seq_k (fun K1 hK2 => ?_)
    refine c_region (fun ops4 hops3 => ?_)
    clear hops3
    refine p_run _ (x_assign (.bool false) rfl rfl) rfl ?_
    refine wpList_nil ?_
    refine hK2 _ _ ?_
    refine wp_seq_k (fun K5 hK6 => ?_)
    refine c_region (fun ops8 hops7 => ?_)
    clear hops7
    refine p_run _ (x_move (.int .i64 x) rfl rfl) rfl ?_
    refine p_run _ (x_cmp (k := .i64) (m := x) (n := -1) .eql (x == (-1)) rfl rfl rfl rfl rfl) rfl ?_
    refine p_run _ (x_assign (.bool (x == (-1))) rfl rfl) rfl ?_
    refine wpList_nil ?_
    refine fr_at (l' := [.int .i64 x, undef, .bool (x == (-1)), .int .i64 x, .bool (x == (-1))]) rfl ?_
    refine hK6 _ _ ?_
    refine wp_ret ?_
    try simp only [Exit.inBlock, Exit.then]
    refine c_ret (.bool (x == (-1))) (r_tmp rfl rfl) ?_
    exact ⟨rfl, HS.belowOf⟩
set_option maxRecDepth 10000 in
set_option maxHeartbeats 1000000 in
theorem idxD_any (w : World) (A : Option Addr) (c : Nat) (l : List Int) (hr : (Kd.int .i64).C w A l.length l) (hl : l.length ≤ 2000) : Calls Try.prog 57 #[.slice A l.length c, .func (.func 46) #[] [].toArray] w fun e w' => ∃ r : Int, e = .returned (.int .i64 r) ∧ ((r = -1 ∧ flt l = l) ∨ ∃ j : Nat, r = (j : Int) ∧ j < l.length ∧ flt (l.take j) = l.take j ∧ l[j]? = some (-1)) ∧ Below w.heap.size w w' := by
  have HS := St.empty w
  · skip
    refine c_enter Try.func57 rfl 19 rfl (.slice A l.length c :: .func (.func 46) #[] [].toArray :: U16k4 (undef :: [])) rfl ?_
    refine wp_seq_k (fun K1 hK2 => ?_)
    refine c_region (fun ops4 hops3 => ?_)
    clear hops3
    refine p_run _ (x_assign (.int .i64 0) rfl rfl) rfl ?_
    refine wpList_nil ?_
    refine hK2 _ _ ?_
    refine wp_seq_k (fun K5 hK6 => ?_)
    refine wp_seq_k (fun K7 hK8 => ?_)
    refine c_region (fun ops10 hops9 => ?_)
    clear hops9
    refine p_run _ (x_move (.slice A l.length c) rfl rfl) rfl ?_
    refine p_run _ (x_len rfl rfl Try.underlying52) rfl ?_
    refine p_run _ (x_move (.int .i64 0) rfl rfl) rfl ?_
    refine wpList_nil ?_
    refine fr_at (l' := (.slice A l.length c :: .func (.func 46) #[] [].toArray :: undef :: undef :: .int .i64 0 :: undef :: .slice A l.length c :: .int .i64 (l.length : Int) :: .int .i64 0 :: U8k4 (undef :: undef :: []))) rfl ?_
    refine hK8 _ _ ?_
    refine wp_block ?_
    refine c_loop (ι := Nat) (fun i_ a_ w_ => match i_ with | j => ∃ (u4 : Value) (u5 : Value) (u9 : Value) (u10 : Value) (u11 : Value) (u12 : Value) (u13 : Value) (u14 : Value) (u15 : Value) (u16 : Value) (u17 : Value) (u18 : Value), a_ = fr (.slice A l.length c :: .func (.func 46) #[] [].toArray :: undef :: undef :: u4 :: u5 :: .slice A l.length c :: .int .i64 (l.length : Int) :: .int .i64 (j : Int) :: u9 :: u10 :: u11 :: u12 :: u13 :: u14 :: u15 :: u16 :: u17 :: u18 :: []) ∧ St w (fun _ => False) w_ ([]) ∧ (j ≤ l.length ∧ flt (l.take j) = l.take j)) (fun i_ => match i_ with | j => l.length - j) 0 ?_ ?_
    · exact ⟨_, _, _, _, _, _, _, _, _, _, _, _, rfl, HS, ⟨Nat.zero_le _, rfl⟩⟩
    · clear HS
      rintro j a_ w13 ⟨u4, u5, u9, u10, u11, u12, u13, u14, u15, u16, u17, u18, rfl, HS, hI⟩ J11 hJ12
      obtain ⟨hjl, hI⟩ := hI
      refine wp_seq_k (fun K14 hK15 => ?_)
      refine c_region (fun ops17 hops16 => ?_)
      clear hops16
      refine p_run _ (x_cmp (k := .i64) (m := (j : Int)) (n := (l.length : Int)) .lss (decide ((j : Int) < (l.length : Int))) rfl rfl rfl rfl rfl) rfl ?_
      refine wpList_nil ?_
      refine hK15 _ _ ?_
      refine wp_seq_k (fun K18 hK19 => ?_)
      refine c_cond (t := decide ((j : Int) < (l.length : Int))) rfl (fun hc20 => ?_) (fun hc20 => ?_)
      · have hlt : j < l.length := by have := of_decide_eq_true hc20; omega
        obtain ⟨ad, x, rfl, hx, hcell⟩ := ii_get (Kd.C_below hr HS.belowOf) j hlt
        refine wp_skip ?_
        refine hK19 _ _ ?_
        refine wp_seq_k (fun K21 hK22 => ?_)
        refine wp_block ?_
        refine wp_seq_k (fun K23 hK24 => ?_)
        refine c_region (fun ops26 hops25 => ?_)
        clear hops25
        refine p_run _ (x_move (.int .i64 (j : Int)) rfl rfl) rfl ?_
        refine p_run _ (x_assign (.int .i64 (j : Int)) rfl rfl) rfl ?_
        refine wpList_nil ?_
        refine hK24 _ _ ?_
        refine wp_seq_k (fun K27 hK28 => ?_)
        refine c_region (fun ops30 hops29 => ?_)
        clear hops29
        refine p_run _ (x_move (.func (.func 46) #[] [].toArray) rfl rfl) rfl ?_
        refine p_run _ (x_move (.slice (some ad) l.length c) rfl rfl) rfl ?_
        refine p_run _ (x_move (.int .i64 (j : Int)) rfl rfl) rfl ?_
        refine p_run (l' := (.slice (some ad) l.length c :: .func (.func 46) #[] [].toArray :: undef :: undef :: u4 :: .int .i64 (j : Int) :: .slice (some ad) l.length c :: .int .i64 (l.length : Int) :: .int .i64 (j : Int) :: .bool (decide ((j : Int) < (l.length : Int))) :: .int .i64 (j : Int) :: .func (.func 46) #[] [].toArray :: .slice (some ad) l.length c :: .int .i64 (j : Int) :: .pointer (some ((ad).add (j * 1))) :: u15 :: u16 :: u17 :: u18 :: [])) _ (x_index (A := ad) (j := j * 1) (sz := 1) rfl rfl rfl Try.underlying52 (by kernel_rfl) (by omega) rfl) rfl ?_
        refine p_run _ (x_load (.int .i64 x) rfl rfl hcell (by rfl)) rfl ?_
        refine w_callv [.int .i64 x] [] rfl Try.func46 (by kernel_rfl) (by rfl) rfl ?_
        refine (del1_any _ x).mono ?_
        rintro e w31 ⟨rfl, hb_⟩
        replace HS := HS.here hb_
        clear hb_
        refine ⟨_, rfl, ?_⟩
        refine wpList_nil ?_
        refine hK28 _ _ ?_
        refine c_cond (t := (x == -1)) rfl (fun hc32 => ?_) (fun hc32 => ?_)
        · have hx1 : x = -1 := by have := hc32; simpa using this
          refine wp_seq_k (fun K33 hK34 => ?_)
          refine c_region (fun ops36 hops35 => ?_)
          clear hops35
          refine p_run _ (x_move (.int .i64 (j : Int)) rfl rfl) rfl ?_
          refine p_run _ (x_assign (.int .i64 (j : Int)) rfl rfl) rfl ?_
          refine wpList_nil ?_
          refine fr_at (l' := (.slice (some ad) l.length c :: .func (.func 46) #[] [].toArray :: undef :: undef :: .int .i64 (j : Int) :: .int .i64 (j : Int) :: .slice (some ad) l.length c :: .int .i64 (l.length : Int) :: .int .i64 (j : Int) :: .bool (decide ((j : Int) < (l.length : Int))) :: .int .i64 (j : Int) :: .func (.func 46) #[] [].toArray :: .slice (some ad) l.length c :: .int .i64 (j : Int) :: .pointer (some ((ad).add (j * 1))) :: .int .i64 x :: .bool (x == -1) :: .int .i64 (j : Int) :: u18 :: [])) rfl ?_
          refine hK34 _ _ ?_
          refine wp_ret ?_
          try simp only [Exit.inBlock, Exit.then]
          refine c_ret (.int .i64 (j : Int)) (r_tmp rfl rfl) ?_
          subst hx1
          exact ⟨_, rfl, .inr ⟨j, rfl, hlt, hI, hx⟩, HS.belowOf⟩
        · have hx1 : x ≠ -1 := by have := hc32; simpa using this
          refine wp_skip ?_
          refine hK22 _ _ ?_
          refine c_region (fun ops38 hops37 => ?_)
          clear hops37
          refine p_run _ (x_arith (k := .i64) (m := (j : Int)) (n := 1) .add (((j + 1 : Nat) : Int)) rfl rfl rfl (show IntKind.i64.wrap ((j : Int) + 1) = ((j + 1 : Nat) : Int) from ((wr64' (by omega)).trans (by omega))) rfl) rfl ?_
          refine p_run _ (x_move (.int .i64 ((j + 1 : Nat) : Int)) rfl rfl) rfl ?_
          refine wpList_nil ?_
          refine fr_at (l' := (.slice (some ad) l.length c :: .func (.func 46) #[] [].toArray :: undef :: undef :: u4 :: .int .i64 (j : Int) :: .slice (some ad) l.length c :: .int .i64 (l.length : Int) :: .int .i64 ((j + 1 : Nat) : Int) :: .bool (decide ((j : Int) < (l.length : Int))) :: .int .i64 (j : Int) :: .func (.func 46) #[] [].toArray :: .slice (some ad) l.length c :: .int .i64 (j : Int) :: .pointer (some ((ad).add (j * 1))) :: .int .i64 x :: .bool (x == -1) :: u17 :: .int .i64 ((j + 1 : Nat) : Int) :: [])) rfl ?_
          refine hJ12 (j + 1) _ _ ?_ ?_
          · show l.length - (j + 1) < l.length - j; omega
          · exact ⟨_, _, _, _, _, _, _, _, _, _, _, _, rfl, HS, ⟨by omega, by obtain ⟨hj_, rfl⟩ := List.getElem?_eq_some_iff.1 hx; rw [List.take_succ_eq_append_getElem hj_, flt_app, hI, flt_yes hx1]⟩⟩
      · have hlt : j = l.length := by have := of_decide_eq_false hc20; omega
        subst hlt
        refine wp_exit ?_
        refine hK6 _ _ ?_
        refine wp_seq_k (fun K39 hK40 => ?_)
        refine c_region (fun ops42 hops41 => ?_)
        clear hops41
        refine p_run _ (x_assign (.int .i64 (-1)) rfl rfl) rfl ?_
        refine wpList_nil ?_
        refine hK40 _ _ ?_
        refine wp_ret ?_
        try simp only [Exit.inBlock, Exit.then]
        refine c_ret (.int .i64 (-1)) (r_tmp rfl rfl) ?_
        rw [List.take_length] at hI
        exact ⟨_, rfl, .inl ⟨rfl, hI⟩, HS.belowOf⟩
theorem ys_at {ys : List Int} {sp : List Value} {j : Nat} (h : j < ys.length) : (nums .i64 ys ++ sp)[j * 1]? = some (.int .i64 (ys.getD j 0)) := by
  rw [Nat.mul_one, List.getElem?_append_left (by rw [nums_length]; exact h)]
  simp [nums, h]
theorem ys_set {ys : List Int} {sp : List Value} {i : Nat} (h : i < ys.length) (x : Int) : (nums .i64 ys ++ sp).set (i * 1) (.int .i64 x) = nums .i64 (ys.set i x) ++ sp := by
  rw [Nat.mul_one, List.set_append, if_pos (by rw [nums_length]; exact h), nums_set]
def DelI (xs ys : List Int) (i j : Nat) : Prop := ys.length = xs.length ∧ i < j ∧ j ≤ xs.length ∧ ys.take i = flt (xs.take j) ∧ ys.drop j = xs.drop j
theorem del_keep {xs ys : List Int} {i j : Nat} (h : DelI xs ys i j) (hj : j < xs.length) (hx : ys.getD j 0 ≠ -1) : DelI xs (ys.set i (ys.getD j 0)) (i + 1) (j + 1) := by
  obtain ⟨h1, h2, h3, h4, h5⟩ := h
  have e1 : ys.getD j 0 = xs[j] := by
    have := congrArg (fun l => l[0]?) h5
    simp only [List.getElem?_drop, Nat.add_zero] at this
    rw [List.getD_eq_getElem?_getD, this, List.getElem?_eq_getElem hj]; rfl
  refine ⟨by rw [List.length_set, h1], by omega, by omega, ?_, ?_⟩
  · rw [List.take_succ_eq_append_getElem (by rw [List.length_set]; omega), List.take_set_of_le (Nat.le_refl _), List.getElem_set_self, h4, List.take_succ_eq_append_getElem hj, flt_app, e1, flt_yes (by rw [← e1]; exact hx)]
  · rw [List.drop_set_of_lt (by omega), ← List.drop_drop (i := 1), h5, List.drop_drop]
theorem del_skip {xs ys : List Int} {i j : Nat} (h : DelI xs ys i j) (hj : j < xs.length) (hx : ys.getD j 0 = -1) : DelI xs ys i (j + 1) := by
  obtain ⟨h1, h2, h3, h4, h5⟩ := h
  have e1 : ys.getD j 0 = xs[j] := by
    have := congrArg (fun l => l[0]?) h5
    simp only [List.getElem?_drop, Nat.add_zero] at this
    rw [List.getD_eq_getElem?_getD, this, List.getElem?_eq_getElem hj]; rfl
  refine ⟨h1, by omega, by omega, ?_, ?_⟩
  · rw [h4, List.take_succ_eq_append_getElem hj, flt_app, flt_no (by rw [← e1]; exact hx), List.append_nil]
  · rw [← List.drop_drop (i := 1), h5, List.drop_drop]
theorem del_lay {ys : List Int} {sp zz : List Value} {i : Nat} (h : i ≤ ys.length) (hz : zz.length = ys.length - i) : lay (nums .i64 ys ++ sp) (0 + i * 1) zz = nums .i64 (ys.take i) ++ (zz ++ sp) := by
  unfold lay
  rw [Nat.zero_add, Nat.mul_one, List.take_append_of_le_length (by rw [nums_length]; exact h), List.drop_append_of_le_length (by rw [nums_length, hz]; omega), hz, show i + (ys.length - i) = ys.length by omega]
  have e1 : (nums .i64 ys).drop ys.length = [] := List.drop_of_length_le (by rw [nums_length]; exact Nat.le_refl _)
  have e2 : (nums .i64 ys).take i = nums .i64 (ys.take i) := by unfold nums; rw [List.map_take]
  rw [e1, e2, List.nil_append, List.append_assoc]
section
variable {w0 W : World} {F : Nat → Prop} {L : List Res} {v : Value} {xs : List Int}
set_option maxRecDepth 10000 in
set_option maxHeartbeats 4000000 in
theorem delf_any (HS : St w0 F W (row (Kd.int .i64) rfl 3 v xs :: L)) (hn : 0 < xs.length) (hl : xs.length ≤ 2000) : Calls Try.prog 45 #[v, .func (.func 46) #[] [].toArray] W fun e w' => ∃ v', e = .returned v' ∧ St w0 F w' (row (Kd.int .i64) rfl 3 v' (flt xs) :: L) := by
  obtain ⟨g, c, sp, hv_, hb_, hc, hcm⟩ := int_blk (HS.get (.head _)) hn
  subst hv_
  replace HS := HS.alter hb_ (fun b' h => (congrArg some (show b' = g from h)).symm)
  clear hb_
  · skip
    refine c_enter Try.func45 rfl 42 rfl (.slice (some ⟨g, 0, none⟩) xs.length c :: .func (.func 46) #[] [].toArray :: U32k4 (U8k4 ([]))) rfl ?_
    refine wp_seq_k (fun K1 hK2 => ?_)
    refine c_region (fun ops4 hops3 => ?_)
    clear hops3
    refine p_run _ (x_assign (.slice none 0 0) rfl rfl) rfl ?_
    refine wpList_nil ?_
    refine hK2 _ _ ?_
    refine wp_seq_k (fun K5 hK6 => ?_)
    refine c_region (fun ops8 hops7 => ?_)
    clear hops7
    refine p_run _ (x_move (.slice (some ⟨g, 0, none⟩) xs.length c) rfl rfl) rfl ?_
    refine p_run _ (x_move (.func (.func 46) #[] [].toArray) rfl rfl) rfl ?_
    refine w_call [.slice (some ⟨g, 0, none⟩) xs.length c, .func (.func 46) #[] [].toArray] Try.func57 (by kernel_rfl) (by rfl) rfl ?_
    refine (idxD_any _ _ c xs (row_C (int_row (HS.get (.head _)) hc hcm)).2.2 (by omega)).mono ?_
    rintro e w9 ⟨ri, rfl, hri, hb_⟩
    replace HS := HS.here hb_
    clear hb_
    refine ⟨_, rfl, ?_⟩
    refine p_run _ (x_assign (.int .i64 ri) rfl rfl) rfl ?_
    refine wpList_nil ?_
    refine fr_at (l' := (.slice (some ⟨g, 0, none⟩) xs.length c :: .func (.func 46) #[] [].toArray :: undef :: undef :: .slice none 0 0 :: .int .i64 ri :: undef :: undef :: .slice (some ⟨g, 0, none⟩) xs.length c :: .func (.func 46) #[] [].toArray :: .int .i64 ri :: U16k4 (U8k4 (U4k4 (undef :: undef :: undef :: []))))) rfl ?_
    refine hK6 _ _ ?_
    refine wp_seq_k (fun K10 hK11 => ?_)
    refine wp_seq_k (fun K12 hK13 => ?_)
    rcases hri with ⟨h1, h2⟩ | ⟨k0, h1, hk, h2, h3⟩
    · skip
      refine c_region (fun ops15 hops14 => ?_)
      clear hops14
      refine p_run _ (x_move (.int .i64 ri) rfl rfl) rfl ?_
      refine p_run _ (x_cmp (k := .i64) (m := ri) (n := -1) .eql true rfl rfl rfl (by rw [h1]; rfl) rfl) rfl ?_
      refine wpList_nil ?_
      refine hK13 _ _ ?_
      refine c_true rfl ?_
      refine wp_seq_k (fun K16 hK17 => ?_)
      refine c_region (fun ops19 hops18 => ?_)
      clear hops18
      refine p_run _ (x_move (.slice (some ⟨g, 0, none⟩) xs.length c) rfl rfl) rfl ?_
      refine p_run _ (x_assign (.slice (some ⟨g, 0, none⟩) xs.length c) rfl rfl) rfl ?_
      refine wpList_nil ?_
      refine fr_at (l' := (.slice (some ⟨g, 0, none⟩) xs.length c :: .func (.func 46) #[] [].toArray :: undef :: undef :: .slice (some ⟨g, 0, none⟩) xs.length c :: .int .i64 ri :: undef :: undef :: .slice (some ⟨g, 0, none⟩) xs.length c :: .func (.func 46) #[] [].toArray :: .int .i64 ri :: .int .i64 ri :: .bool true :: .slice (some ⟨g, 0, none⟩) xs.length c :: U16k4 (U8k4 (U4k4 ([]))))) rfl ?_
      refine hK17 _ _ ?_
      refine wp_ret ?_
      try simp only [Exit.inBlock, Exit.then]
      refine c_ret (.slice (some ⟨g, 0, none⟩) xs.length c) (r_tmp rfl rfl) ?_
      rw [h2]
      exact ⟨_, rfl, (HS.alter (int_row (HS.get (.head _)) hc hcm) (fun b' h => (Option.some.inj (show some g = some b' from h)).symm))⟩
    · skip
      subst h1
      have hD0 : DelI xs xs k0 (k0 + 1) := ⟨rfl, by omega, by omega, by rw [List.take_succ_eq_append_getElem hk, flt_app, h2, flt_no (by have := (List.getElem?_eq_some_iff.1 h3).2; exact this), List.append_nil], rfl⟩
      refine c_region (fun ops21 hops20 => ?_)
      clear hops20
      refine p_run _ (x_move (.int .i64 (k0 : Int)) rfl rfl) rfl ?_
      refine p_run _ (x_cmp (k := .i64) (m := (k0 : Int)) (n := -1) .eql false rfl rfl rfl (eqlI (by omega)) rfl) rfl ?_
      refine wpList_nil ?_
      refine hK13 _ _ ?_
      refine c_false rfl ?_
      refine wp_skip ?_
      refine hK11 _ _ ?_
      refine wp_seq_k (fun K22 hK23 => ?_)
      refine wp_seq_k (fun K24 hK25 => ?_)
      refine c_region (fun ops27 hops26 => ?_)
      clear hops26
      refine p_run _ (x_move (.int .i64 (k0 : Int)) rfl rfl) rfl ?_
      refine p_run _ (x_arith (k := .i64) (m := (k0 : Int)) (n := 1) .add (((k0 + 1 : Nat) : Int)) rfl rfl rfl (show IntKind.i64.wrap ((k0 : Int) + 1) = ((k0 + 1 : Nat) : Int) from ((wr64' (by omega)).trans (by omega))) rfl) rfl ?_
      refine p_run _ (x_assign (.int .i64 ((k0 + 1 : Nat) : Int)) rfl rfl) rfl ?_
      refine wpList_nil ?_
      obtain ⟨qz28, hqz28⟩ : ∃ q_ : V8, q_ = ⟨.slice (some ⟨g, 0, none⟩) xs.length c, .func (.func 46) #[] [].toArray, .int .i64 (k0 : Int), .int .i64 (k0 : Int), .bool false, undef, .int .i64 (k0 : Int), .int .i64 ((k0 + 1 : Nat) : Int)⟩ := ⟨_, rfl⟩
      refine fr_at (l' := (.slice (some ⟨g, 0, none⟩) xs.length c :: .func (.func 46) #[] [].toArray :: undef :: undef :: .slice none 0 0 :: .int .i64 (k0 : Int) :: .int .i64 ((k0 + 1 : Nat) : Int) :: undef :: V8.l qz28 (U16k4 (U8k4 (undef :: undef :: []))))) (by subst hqz28; rfl) ?_
      refine hK25 _ _ ?_
      refine wp_block ?_
      refine c_loop (ι := Nat × Nat × List Int) (fun i_ a_ w_ => match i_ with | (i, j, ys) => ∃ (u7 : Value) (u16 : Value) (u17 : Value) (u18 : Value) (u19 : Value) (u20 : Value) (u21 : Value) (u22 : Value) (u23 : Value) (u24 : Value) (u25 : Value) (u26 : Value) (u27 : Value) (u28 : Value) (u29 : Value) (u30 : Value) (u31 : Value) (u32 : Value) (u33 : Value) (u34 : Value) (u35 : Value), a_ = fr (.slice (some ⟨g, 0, none⟩) xs.length c :: .func (.func 46) #[] [].toArray :: undef :: undef :: .slice none 0 0 :: .int .i64 (i : Int) :: .int .i64 (j : Int) :: u7 :: V8.l qz28 (u16 :: u17 :: u18 :: u19 :: u20 :: u21 :: u22 :: u23 :: u24 :: u25 :: u26 :: u27 :: u28 :: u29 :: u30 :: u31 :: u32 :: u33 :: u34 :: u35 :: U4k4 (undef :: undef :: []))) ∧ St w0 F w_ (blk g ((nums .i64 ys ++ sp)) 3 :: L) ∧ (DelI xs ys i j)) (fun i_ => match i_ with | (i, j, ys) => xs.length - j) (k0, k0 + 1, xs) ?_ ?_
      · exact ⟨_, _, _, _, _, _, _, _, _, _, _, _, _, _, _, _, _, _, _, _, _, rfl, HS, hD0⟩
      · clear HS
        rintro ⟨i, j, ys⟩ a_ w31 ⟨u7, u16, u17, u18, u19, u20, u21, u22, u23, u24, u25, u26, u27, u28, u29, u30, u31, u32, u33, u34, u35, rfl, HS, hI⟩ J29 hJ30
        have hD := hI
        obtain ⟨hy1, hy2, hy3, hy4, hy5⟩ := hI
        refine wp_seq_k (fun K32 hK33 => ?_)
        refine wp_seq_k (fun K34 hK35 => ?_)
        refine c_region (fun ops37 hops36 => ?_)
        clear hops36
        refine p_run _ (x_move (.int .i64 (j : Int)) rfl rfl) rfl ?_
        refine p_run _ (x_move (.slice (some ⟨g, 0, none⟩) xs.length c) rfl rfl) rfl ?_
        refine p_run _ (x_len rfl rfl Try.underlying52) rfl ?_
        refine p_run _ (x_cmp (k := .i64) (m := (j : Int)) (n := (xs.length : Int)) .lss (decide ((j : Int) < (xs.length : Int))) rfl rfl rfl rfl rfl) rfl ?_
        refine wpList_nil ?_
        refine fr_at (l' := (.slice (some ⟨g, 0, none⟩) xs.length c :: .func (.func 46) #[] [].toArray :: undef :: undef :: .slice none 0 0 :: .int .i64 (i : Int) :: .int .i64 (j : Int) :: u7 :: V8.l qz28 (.int .i64 (j : Int) :: .slice (some ⟨g, 0, none⟩) xs.length c :: .int .i64 (xs.length : Int) :: .bool (decide ((j : Int) < (xs.length : Int))) :: u20 :: u21 :: u22 :: u23 :: u24 :: u25 :: u26 :: u27 :: u28 :: u29 :: u30 :: u31 :: u32 :: u33 :: u34 :: u35 :: U4k4 (undef :: undef :: [])))) rfl ?_
        refine hK35 _ _ ?_
        refine c_cond (t := decide ((j : Int) < (xs.length : Int))) rfl (fun hc38 => ?_) (fun hc38 => ?_)
        · have hlt : j < xs.length := by have := of_decide_eq_true hc38; omega
          refine wp_skip ?_
          refine hK33 _ _ ?_
          refine wp_seq_k (fun K39 hK40 => ?_)
          have hT41 : ∀ (i2 : Nat) (ys2 : List Int) (q42 : V8) (q43 : V8) (w44 : World), St w0 F w44 (blk g ((nums .i64 ys2 ++ sp)) 3 :: L) → (DelI xs ys2 i2 (j + 1)) → K39 (fr (.slice (some ⟨g, 0, none⟩) xs.length c :: .func (.func 46) #[] [].toArray :: undef :: undef :: .slice none 0 0 :: .int .i64 (i2 : Int) :: .int .i64 (j : Int) :: q42.a :: V8.l qz28 (.int .i64 (j : Int) :: .slice (some ⟨g, 0, none⟩) xs.length c :: .int .i64 (xs.length : Int) :: .bool (decide ((j : Int) < (xs.length : Int))) :: u20 :: u21 :: q42.b :: q42.c :: q42.d :: q42.e :: q42.f :: q42.g :: q42.h :: q43.a :: q43.b :: q43.c :: q43.d :: q43.e :: q43.f :: q43.g :: U4k4 (undef :: undef :: [])))) w44 := by
            clear HS
            intro i2 ys2 q42 q43 w44 HS hJ
            refine hK40 _ _ ?_
            have hD2 := hJ
            refine c_region (fun ops46 hops45 => ?_)
            clear hops45
            refine p_run _ (x_move (.int .i64 (j : Int)) rfl rfl) rfl ?_
            refine p_run _ (x_arith (k := .i64) (m := (j : Int)) (n := 1) .add (((j + 1 : Nat) : Int)) rfl rfl rfl (show IntKind.i64.wrap ((j : Int) + 1) = ((j + 1 : Nat) : Int) from ((wr64' (by omega)).trans (by omega))) rfl) rfl ?_
            refine p_run _ (x_assign (.int .i64 ((j + 1 : Nat) : Int)) rfl rfl) rfl ?_
            refine wpList_nil ?_
            refine fr_at (l' := (.slice (some ⟨g, 0, none⟩) xs.length c :: .func (.func 46) #[] [].toArray :: undef :: undef :: .slice none 0 0 :: .int .i64 (i2 : Int) :: .int .i64 ((j + 1 : Nat) : Int) :: q42.a :: V8.l qz28 (.int .i64 (j : Int) :: .slice (some ⟨g, 0, none⟩) xs.length c :: .int .i64 (xs.length : Int) :: .bool (decide ((j : Int) < (xs.length : Int))) :: .int .i64 (j : Int) :: .int .i64 ((j + 1 : Nat) : Int) :: q42.b :: q42.c :: q42.d :: q42.e :: q42.f :: q42.g :: q42.h :: q43.a :: q43.b :: q43.c :: q43.d :: q43.e :: q43.f :: q43.g :: U4k4 (undef :: undef :: [])))) rfl ?_
            refine hJ30 (i2, j + 1, ys2) _ _ ?_ ?_
            · show xs.length - (j + 1) < xs.length - j; omega
            · exact ⟨_, _, _, _, _, _, _, _, _, _, _, _, _, _, _, _, _, _, _, _, _, rfl, HS, hD2⟩
          clear hK40
          refine wp_block ?_
          refine wp_seq_k (fun K47 hK48 => ?_)
          refine c_region (fun ops50 hops49 => ?_)
          clear hops49
          refine p_run _ (x_move (.slice (some ⟨g, 0, none⟩) xs.length c) rfl rfl) rfl ?_
          refine p_run _ (x_move (.int .i64 (j : Int)) rfl rfl) rfl ?_
          refine p_run (.pointer (some ⟨g, j * 1, none⟩)) ((x_index (A := ⟨g, 0, none⟩) (j := j * 1) (sz := 1) rfl rfl rfl Try.underlying52 (by kernel_rfl) (by omega) rfl).trans (by rw [add_mk, Nat.zero_add])) rfl ?_
          refine p_run _ (x_load (.int .i64 (ys.getD j 0)) rfl rfl (bkCell (HS.get (.head _)) (j * 1) _ (ys_at (by omega))) (by rfl)) rfl ?_
          refine p_run _ (x_assign (.int .i64 (ys.getD j 0)) rfl rfl) rfl ?_
          refine wpList_nil ?_
          refine fr_at (l' := (.slice (some ⟨g, 0, none⟩) xs.length c :: .func (.func 46) #[] [].toArray :: undef :: undef :: .slice none 0 0 :: .int .i64 (i : Int) :: .int .i64 (j : Int) :: .int .i64 (ys.getD j 0) :: V8.l qz28 (.int .i64 (j : Int) :: .slice (some ⟨g, 0, none⟩) xs.length c :: .int .i64 (xs.length : Int) :: .bool (decide ((j : Int) < (xs.length : Int))) :: u20 :: u21 :: .slice (some ⟨g, 0, none⟩) xs.length c :: .int .i64 (j : Int) :: .pointer (some ⟨g, j * 1, none⟩) :: .int .i64 (ys.getD j 0) :: u26 :: u27 :: u28 :: u29 :: u30 :: u31 :: u32 :: u33 :: u34 :: u35 :: U4k4 (undef :: undef :: [])))) rfl ?_
          refine hK48 _ _ ?_
          refine wp_seq_k (fun K51 hK52 => ?_)
          refine c_region (fun ops54 hops53 => ?_)
          clear hops53
          refine p_run _ (x_move (.func (.func 46) #[] [].toArray) rfl rfl) rfl ?_
          refine p_run _ (x_move (.int .i64 (ys.getD j 0)) rfl rfl) rfl ?_
          refine w_callv [.int .i64 (ys.getD j 0)] [] rfl Try.func46 (by kernel_rfl) (by rfl) rfl ?_
          refine (del1_any _ (ys.getD j 0)).mono ?_
          rintro e w55 ⟨rfl, hb_⟩
          replace HS := HS.here hb_
          clear hb_
          refine ⟨_, rfl, ?_⟩
          refine p_run _ (x_not (ys.getD j 0 == -1) rfl rfl) rfl ?_
          refine wpList_nil ?_
          refine fr_at (l' := (.slice (some ⟨g, 0, none⟩) xs.length c :: .func (.func 46) #[] [].toArray :: undef :: undef :: .slice none 0 0 :: .int .i64 (i : Int) :: .int .i64 (j : Int) :: .int .i64 (ys.getD j 0) :: V8.l qz28 (.int .i64 (j : Int) :: .slice (some ⟨g, 0, none⟩) xs.length c :: .int .i64 (xs.length : Int) :: .bool (decide ((j : Int) < (xs.length : Int))) :: u20 :: u21 :: .slice (some ⟨g, 0, none⟩) xs.length c :: .int .i64 (j : Int) :: .pointer (some ⟨g, j * 1, none⟩) :: .int .i64 (ys.getD j 0) :: .func (.func 46) #[] [].toArray :: .int .i64 (ys.getD j 0) :: .bool (ys.getD j 0 == -1) :: .bool (!(ys.getD j 0 == -1)) :: u30 :: u31 :: u32 :: u33 :: u34 :: u35 :: U4k4 (undef :: undef :: [])))) rfl ?_
          refine hK52 _ _ ?_
          refine c_cond (t := !(ys.getD j 0 == -1)) rfl (fun hc56 => ?_) (fun hc56 => ?_)
          · have hx1 : ys.getD j 0 ≠ -1 := by have := hc56; simpa using this
            refine wp_seq_k (fun K57 hK58 => ?_)
            refine c_region (fun ops60 hops59 => ?_)
            clear hops59
            refine p_run _ (x_move (.slice (some ⟨g, 0, none⟩) xs.length c) rfl rfl) rfl ?_
            refine p_run _ (x_move (.int .i64 (i : Int)) rfl rfl) rfl ?_
            refine p_run _ (x_move (.int .i64 (ys.getD j 0)) rfl rfl) rfl ?_
            refine p_run (.pointer (some ⟨g, i * 1, none⟩)) ((x_index (A := ⟨g, 0, none⟩) (j := i * 1) (sz := 1) rfl rfl rfl Try.underlying52 (by kernel_rfl) (by omega) rfl).trans (by rw [add_mk, Nat.zero_add])) rfl ?_
            refine St.store (cs' := (nums .i64 (ys.set i (ys.getD j 0)) ++ sp)) HS (.int .i64 (ys.getD j 0)) rfl rfl rfl (by kernel_rfl) (decide_eq_true (by rw [List.length_append, nums_length]; omega)) (ys_set (by omega) _) ?_
            clear HS
            intro w61 HS
            refine wpList_nil ?_
            refine fr_at (l' := (.slice (some ⟨g, 0, none⟩) xs.length c :: .func (.func 46) #[] [].toArray :: undef :: undef :: .slice none 0 0 :: .int .i64 (i : Int) :: .int .i64 (j : Int) :: .int .i64 (ys.getD j 0) :: V8.l qz28 (.int .i64 (j : Int) :: .slice (some ⟨g, 0, none⟩) xs.length c :: .int .i64 (xs.length : Int) :: .bool (decide ((j : Int) < (xs.length : Int))) :: u20 :: u21 :: .slice (some ⟨g, 0, none⟩) xs.length c :: .int .i64 (j : Int) :: .pointer (some ⟨g, j * 1, none⟩) :: .int .i64 (ys.getD j 0) :: .func (.func 46) #[] [].toArray :: .int .i64 (ys.getD j 0) :: .bool (ys.getD j 0 == -1) :: .bool (!(ys.getD j 0 == -1)) :: .slice (some ⟨g, 0, none⟩) xs.length c :: .int .i64 (i : Int) :: .int .i64 (ys.getD j 0) :: .pointer (some ⟨g, i * 1, none⟩) :: u34 :: u35 :: U4k4 (undef :: undef :: [])))) rfl ?_
            refine hK58 _ _ ?_
            refine c_region (fun ops63 hops62 => ?_)
            clear hops62
            refine p_run _ (x_move (.int .i64 (i : Int)) rfl rfl) rfl ?_
            refine p_run _ (x_arith (k := .i64) (m := (i : Int)) (n := 1) .add (((i + 1 : Nat) : Int)) rfl rfl rfl (show IntKind.i64.wrap ((i : Int) + 1) = ((i + 1 : Nat) : Int) from ((wr64' (by omega)).trans (by omega))) rfl) rfl ?_
            refine p_run _ (x_assign (.int .i64 ((i + 1 : Nat) : Int)) rfl rfl) rfl ?_
            refine wpList_nil ?_
            refine fr_at (l' := (.slice (some ⟨g, 0, none⟩) xs.length c :: .func (.func 46) #[] [].toArray :: undef :: undef :: .slice none 0 0 :: .int .i64 ((i + 1 : Nat) : Int) :: .int .i64 (j : Int) :: .int .i64 (ys.getD j 0) :: V8.l qz28 (.int .i64 (j : Int) :: .slice (some ⟨g, 0, none⟩) xs.length c :: .int .i64 (xs.length : Int) :: .bool (decide ((j : Int) < (xs.length : Int))) :: u20 :: u21 :: .slice (some ⟨g, 0, none⟩) xs.length c :: .int .i64 (j : Int) :: .pointer (some ⟨g, j * 1, none⟩) :: .int .i64 (ys.getD j 0) :: .func (.func 46) #[] [].toArray :: .int .i64 (ys.getD j 0) :: .bool (ys.getD j 0 == -1) :: .bool (!(ys.getD j 0 == -1)) :: .slice (some ⟨g, 0, none⟩) xs.length c :: .int .i64 (i : Int) :: .int .i64 (ys.getD j 0) :: .pointer (some ⟨g, i * 1, none⟩) :: .int .i64 (i : Int) :: .int .i64 ((i + 1 : Nat) : Int) :: U4k4 (undef :: undef :: [])))) rfl ?_
            exact hT41 (i + 1) (ys.set i (ys.getD j 0)) ⟨.int .i64 (ys.getD j 0), .slice (some ⟨g, 0, none⟩) xs.length c, .int .i64 (j : Int), .pointer (some ⟨g, j * 1, none⟩), .int .i64 (ys.getD j 0), .func (.func 46) #[] [].toArray, .int .i64 (ys.getD j 0), .bool (ys.getD j 0 == -1)⟩ ⟨.bool (!(ys.getD j 0 == -1)), .slice (some ⟨g, 0, none⟩) xs.length c, .int .i64 (i : Int), .int .i64 (ys.getD j 0), .pointer (some ⟨g, i * 1, none⟩), .int .i64 (i : Int), .int .i64 ((i + 1 : Nat) : Int), undef⟩ _ HS (del_keep hD hlt hx1)
          · have hx1 : ys.getD j 0 = -1 := by have := hc56; simpa using this
            refine wp_skip ?_
            exact hT41 i ys ⟨.int .i64 (ys.getD j 0), .slice (some ⟨g, 0, none⟩) xs.length c, .int .i64 (j : Int), .pointer (some ⟨g, j * 1, none⟩), .int .i64 (ys.getD j 0), .func (.func 46) #[] [].toArray, .int .i64 (ys.getD j 0), .bool (ys.getD j 0 == -1)⟩ ⟨.bool (!(ys.getD j 0 == -1)), u30, u31, u32, u33, u34, u35, undef⟩ _ HS (del_skip hD hlt hx1)
        · have hlt : j = xs.length := by have := of_decide_eq_false hc38; omega
          subst hlt
          refine wp_exit ?_
          refine hK23 _ _ ?_
          refine wp_seq_k (fun K64 hK65 => ?_)
          refine c_region (fun ops67 hops66 => ?_)
          clear hops66
          refine p_run _ (x_move (.slice (some ⟨g, 0, none⟩) xs.length c) rfl rfl) rfl ?_
          refine p_run _ (x_move (.int .i64 (i : Int)) rfl rfl) rfl ?_
          refine p_run (.slice (some ⟨g, 0 + i * 1, none⟩) (xs.length - i) (c - i)) ((x_slice (sz := 1) (L := (some (.tmp 37))) (H := none) (lo := i) (hi := xs.length) (some ⟨g, 0 + i * 1, none⟩) rfl rfl Try.underlying52 (by kernel_rfl) ⟨_, _, rfl, (by omega), rfl⟩ rfl (by omega) (by omega) (by rw [if_neg (by omega)]; simp only [Option.map_some, add_mk])).trans (by first | rfl | (rw [show xs.length - i = xs.length - i from (by omega), show c - i = c - i from (by omega)]))) rfl ?_
          refine St.wClear HS (z := .int .i64 0) 1 Try.underlying52 (by kernel_rfl) rfl rfl (n := xs.length - i) (k := 0 + i * 1) (c := c - i) rfl (by omega) (by rw [List.length_append, nums_length]; omega) ?_
          clear HS
          intro w68 HS
          rw [del_lay (by omega) (by rw [Array.length_toList, size_zeroCells]; show (xs.length - i) * 1 = _; omega)] at HS
          show wpList _ _ _ _ (fr _) _
          refine wpList_nil ?_
          refine hK65 _ _ ?_
          refine wp_seq_k (fun K69 hK70 => ?_)
          refine c_region (fun ops72 hops71 => ?_)
          clear hops71
          refine p_run _ (x_move (.slice (some ⟨g, 0, none⟩) xs.length c) rfl rfl) rfl ?_
          refine p_run _ (x_move (.int .i64 (i : Int)) rfl rfl) rfl ?_
          refine p_run (.slice (some ⟨g, 0, none⟩) i c) ((x_slice (sz := 1) (L := none) (H := (some (.tmp 40))) (lo := 0) (hi := i) (some ⟨g, 0, none⟩) rfl rfl Try.underlying52 (by kernel_rfl) rfl ⟨_, _, rfl, (by omega), rfl⟩ (by omega) (by omega) (by split <;> first | rfl | (rw [Option.map_some, add_mk]))).trans rfl) rfl ?_
          refine p_run (l' := (.slice (some ⟨g, 0, none⟩) xs.length c :: .func (.func 46) #[] [].toArray :: undef :: undef :: .slice (some ⟨g, 0, none⟩) i c :: .int .i64 (i : Int) :: .int .i64 (xs.length : Int) :: u7 :: V8.l qz28 (.int .i64 (xs.length : Int) :: .slice (some ⟨g, 0, none⟩) xs.length c :: .int .i64 (xs.length : Int) :: .bool (decide ((xs.length : Int) < (xs.length : Int))) :: u20 :: u21 :: u22 :: u23 :: u24 :: u25 :: u26 :: u27 :: u28 :: u29 :: u30 :: u31 :: u32 :: u33 :: u34 :: u35 :: .slice (some ⟨g, 0, none⟩) xs.length c :: .int .i64 (i : Int) :: .slice (some ⟨g, 0 + i * 1, none⟩) (xs.length - i) (c - i) :: .slice (some ⟨g, 0, none⟩) xs.length c :: .int .i64 (i : Int) :: .slice (some ⟨g, 0, none⟩) i c :: []))) _ (x_assign (.slice (some ⟨g, 0, none⟩) i c) rfl rfl) rfl ?_
          refine wpList_nil ?_
          refine hK70 _ _ ?_
          refine wp_ret ?_
          try simp only [Exit.inBlock, Exit.then]
          refine c_ret (.slice (some ⟨g, 0, none⟩) i c) (r_tmp rfl rfl) ?_
          rw [List.take_length] at hy4
          rw [← hy4]
          have hli : (ys.take i).length = i := by rw [List.length_take]; omega
          have hrow_ := int_row (c := c) (HS.get (.head _)) (by rw [hli, List.length_append, Array.length_toList, size_zeroCells]; show c = i + ((xs.length - i) * 1 + sp.length); omega) hcm
          rw [hli] at hrow_
          exact ⟨_, rfl, (HS.alter hrow_ (fun b' h => (Option.some.inj (show some g = some b' from h)).symm))⟩
end
set_option maxRecDepth 10000 in
set_option maxHeartbeats 2000000 in
theorem rroots_any (w : World) (r : Rc) (A : Option Addr) (c : Nat) (hA : kSn.C w A r.sn.length r.sn) (hl : r.sn.length ≤ 1000) : Calls Try.prog 20 #[rcV r A c] w fun e w' => ∃ v, e = .returned v ∧ St w (fun _ => False) w' [row (Kd.int .i64) rfl 3 v (rtsL r)] := by
  have HS := St.empty w
  · skip
    refine c_enter Try.func20 rfl 30 rfl (rcV r A c :: U16k4 (U8k4 (U4k4 (undef :: [])))) rfl ?_
    refine wp_seq_k (fun K1 hK2 => ?_)
    refine c_region (fun ops4 hops3 => ?_)
    clear hops3
    refine St.wBox HS (cs := (.int .u32 r.e :: .bool r.p :: .int .u32 r.b :: .int .u32 r.q :: .int .i64 r.l :: .int .u32 r.xe :: .int .u32 r.xq :: .slice A r.sn.length c :: .int .u64 r.s :: .int .u32 r.te :: .int .u32 r.tq :: .int .u32 r.be :: .int .u32 r.bq :: .int .i64 r.nx :: .int .i64 r.tt :: .int .i64 r.rt :: [])) (rcV r A c) rfl rfl ?_
    clear HS
    intro g5 w6 hg7 HS
    refine p_run _ (x_assign (.slice none 0 0) rfl rfl) rfl ?_
    refine wpList_nil ?_
    refine hK2 _ _ ?_
    refine wp_seq_k (fun K8 hK9 => ?_)
    refine c_region (fun ops11 hops10 => ?_)
    clear hops10
    refine p_run _ (x_field (j := 4) _ _ rfl rfl Try.underlying34 rfl (by rfl) rfl) rfl ?_
    refine p_run _ (x_load (.int .i64 r.l) rfl rfl (bkCell (HS.get (.head _)) 4 _ rfl) (by rfl)) rfl ?_
    refine St.wLit1 HS [.int .i64 r.l] 1 (.int .i64 0) (.int .i64 r.l) Try.underlying52 (by kernel_rfl) (by decide) rfl rfl rfl ?_
    clear HS
    intro g12 w13 hg14 HS
    refine p_run _ (x_assign (.slice (some ⟨g12, 0, none⟩) 1 1) rfl rfl) rfl ?_
    refine wpList_nil ?_
    refine fr_at (l' := (rcV r A c :: .pointer (some ⟨g5, 0, none⟩) :: .slice none 0 0 :: .slice (some ⟨g12, 0, none⟩) 1 1 :: undef :: undef :: .pointer (some ⟨g5, 4, none⟩) :: .int .i64 r.l :: .slice (some ⟨g12, 0, none⟩) 1 1 :: U16k4 (U4k4 (undef :: [])))) rfl ?_
    refine hK9 _ _ ?_
    refine wp_seq_k (fun K15 hK16 => ?_)
    refine wp_seq_k (fun K17 hK18 => ?_)
    refine c_region (fun ops20 hops19 => ?_)
    clear hops19
    refine p_run _ (x_field (j := 7) _ _ rfl rfl Try.underlying34 rfl (by rfl) rfl) rfl ?_
    refine p_run _ (x_load (.slice A r.sn.length c) rfl rfl (bkCell (HS.get (.tail _ (.head _))) 7 _ rfl) (by rfl)) rfl ?_
    refine p_run _ (x_len rfl rfl Try.underlying29) rfl ?_
    refine p_run _ (x_move (.int .i64 0) rfl rfl) rfl ?_
    refine wpList_nil ?_
    refine fr_at (l' := (rcV r A c :: .pointer (some ⟨g5, 0, none⟩) :: .slice none 0 0 :: .slice (some ⟨g12, 0, none⟩) 1 1 :: undef :: undef :: .pointer (some ⟨g5, 4, none⟩) :: .int .i64 r.l :: .slice (some ⟨g12, 0, none⟩) 1 1 :: .pointer (some ⟨g5, 7, none⟩) :: .slice A r.sn.length c :: .int .i64 (r.sn.length : Int) :: .int .i64 0 :: U16k4 (undef :: []))) rfl ?_
    refine hK18 _ _ ?_
    refine wp_block ?_
    replace HS := HS.alter (int_row (zs := [r.l]) (sp := []) (c := 1) (HS.get (.head _)) rfl (by decide)) (fun b' h => (Option.some.inj (show some g12 = some b' from h)).symm)
    refine c_loop (ι := Nat × Value) (fun i_ a_ w_ => match i_ with | (j, u3) => ∃ (u5 : Value) (u13 : Value) (u14 : Value) (u15 : Value) (u16 : Value) (u17 : Value) (u18 : Value) (u19 : Value) (u20 : Value) (u21 : Value), a_ = fr (rcV r A c :: .pointer (some ⟨g5, 0, none⟩) :: .slice none 0 0 :: u3 :: undef :: u5 :: .pointer (some ⟨g5, 4, none⟩) :: .int .i64 r.l :: .slice (some ⟨g12, 0, none⟩) 1 1 :: .pointer (some ⟨g5, 7, none⟩) :: .slice A r.sn.length c :: .int .i64 (r.sn.length : Int) :: .int .i64 (j : Int) :: u13 :: u14 :: u15 :: u16 :: u17 :: u18 :: u19 :: u20 :: u21 :: U8k4 ([])) ∧ St w (fun _ => False) w_ ([row (Kd.int .i64) rfl 3 u3 (r.l :: (r.sn.take j).map (·.2.2.1)), blk g5 (.int .u32 r.e :: .bool r.p :: .int .u32 r.b :: .int .u32 r.q :: .int .i64 r.l :: .int .u32 r.xe :: .int .u32 r.xq :: .slice A r.sn.length c :: .int .u64 r.s :: .int .u32 r.te :: .int .u32 r.tq :: .int .u32 r.be :: .int .u32 r.bq :: .int .i64 r.nx :: .int .i64 r.tt :: .int .i64 r.rt :: []) 34]) ∧ (j ≤ r.sn.length)) (fun i_ => match i_ with | (j, u3) => r.sn.length - j) (0, .slice (some ⟨g12, 0, none⟩) 1 1) ?_ ?_
    · exact ⟨_, _, _, _, _, _, _, _, _, _, rfl, ((HS.front 1 rfl).front 1 rfl), Nat.zero_le _⟩
    · clear HS
      rintro ⟨j, u3⟩ a_ w23 ⟨u5, u13, u14, u15, u16, u17, u18, u19, u20, u21, rfl, HS, hI⟩ J21 hJ22
      have hjl := hI
      refine wp_seq_k (fun K24 hK25 => ?_)
      refine c_region (fun ops27 hops26 => ?_)
      clear hops26
      refine p_run _ (x_cmp (k := .i64) (m := (j : Int)) (n := (r.sn.length : Int)) .lss (decide ((j : Int) < (r.sn.length : Int))) rfl rfl rfl rfl rfl) rfl ?_
      refine wpList_nil ?_
      refine hK25 _ _ ?_
      refine wp_seq_k (fun K28 hK29 => ?_)
      refine c_cond (t := decide ((j : Int) < (r.sn.length : Int))) rfl (fun hc30 => ?_) (fun hc30 => ?_)
      · have hlt : j < r.sn.length := by have := of_decide_eq_true hc30; omega
        obtain ⟨ad, x, rfl, hx, -⟩ := sn_get (Kd.C_below hA HS.belowOf) j hlt
        refine wp_skip ?_
        refine hK29 _ _ ?_
        refine wp_seq_k (fun K31 hK32 => ?_)
        refine wp_block ?_
        refine wp_seq_k (fun K33 hK34 => ?_)
        refine c_region (fun ops36 hops35 => ?_)
        clear hops35
        refine p_run _ (x_index (A := ad) (j := j * 4) (sz := 4) rfl rfl rfl Try.underlying29 (by kernel_rfl) (by omega) rfl) rfl ?_
        refine p_run _ (x_loads [.int .u32 x.1, .int .u32 x.2.1, .int .i64 x.2.2.1, .int .u32 x.2.2.2] 4 rfl rfl (sn_cells (Kd.C_below hA HS.belowOf) hx) (by rfl) (by kernel_rfl) rfl) rfl ?_
        refine St.wAlloc HS (cs := [.int .u32 0, .int .u32 0, .int .i64 0, .int .u32 0]) (.agg [.int .u32 0, .int .u32 0, .int .i64 0, .int .u32 0].toArray) (by kernel_rfl) rfl ?_
        clear HS
        intro g37 w38 hg39 HS
        refine St.stores (cs' := [.int .u32 x.1, .int .u32 x.2.1, .int .i64 x.2.2.1, .int .u32 x.2.2.2]) HS [.int .u32 x.1, .int .u32 x.2.1, .int .i64 x.2.2.1, .int .u32 x.2.2.2] 4 rfl rfl (by rfl) (by kernel_rfl) rfl (by simp) rfl ?_
        clear HS
        intro w40 HS
        refine wpList_nil ?_
        refine fr_at (l' := (rcV r (some ad) c :: .pointer (some ⟨g5, 0, none⟩) :: .slice none 0 0 :: u3 :: undef :: .pointer (some ⟨g37, 0, none⟩) :: .pointer (some ⟨g5, 4, none⟩) :: .int .i64 r.l :: .slice (some ⟨g12, 0, none⟩) 1 1 :: .pointer (some ⟨g5, 7, none⟩) :: .slice (some ad) r.sn.length c :: .int .i64 (r.sn.length : Int) :: .int .i64 (j : Int) :: .bool (decide ((j : Int) < (r.sn.length : Int))) :: .pointer (some ((ad).add (j * 4))) :: .agg ([.int .u32 x.1, .int .u32 x.2.1, .int .i64 x.2.2.1, .int .u32 x.2.2.2] : List Value).toArray :: u16 :: u17 :: u18 :: u19 :: u20 :: u21 :: U8k4 ([]))) rfl ?_
        refine hK34 _ _ ?_
        refine c_region (fun ops42 hops41 => ?_)
        clear hops41
        refine p_run _ (x_move (u3) rfl rfl) rfl ?_
        refine p_run _ (x_field (j := 2) _ _ rfl rfl Try.underlying48 rfl (by rfl) rfl) rfl ?_
        refine p_run _ (x_load (.int .i64 x.2.2.1) rfl rfl (bkCell (HS.get (.head _)) 2 _ rfl) (by rfl)) rfl ?_
        refine St.wLit1 HS [.int .i64 x.2.2.1] 1 (.int .i64 0) (.int .i64 x.2.2.1) Try.underlying52 (by kernel_rfl) (by decide) rfl rfl rfl ?_
        clear HS
        intro g43 w44 hg45 HS
        replace HS := (HS.front 2 rfl)
        refine St.wAppend HS (.int .i64 0) 8 Try.underlying52 (by kernel_rfl) rfl (by decide) (by decide) [x.2.2.1] _ _ _ rfl rfl (ints_reads (HS.get (.tail _ (.head _))) rfl (by simp)) (fun _ _ h => h) (by simp only [List.length_cons, List.length_map, List.length_take]; omega) ?_
        clear HS
        intro v46 w47 HS
        refine p_run _ (x_assign (v46) rfl rfl) rfl ?_
        refine wpList_nil ?_
        refine fr_at (l' := (rcV r (some ad) c :: .pointer (some ⟨g5, 0, none⟩) :: .slice none 0 0 :: v46 :: undef :: .pointer (some ⟨g37, 0, none⟩) :: .pointer (some ⟨g5, 4, none⟩) :: .int .i64 r.l :: .slice (some ⟨g12, 0, none⟩) 1 1 :: .pointer (some ⟨g5, 7, none⟩) :: .slice (some ad) r.sn.length c :: .int .i64 (r.sn.length : Int) :: .int .i64 (j : Int) :: .bool (decide ((j : Int) < (r.sn.length : Int))) :: .pointer (some ((ad).add (j * 4))) :: .agg ([.int .u32 x.1, .int .u32 x.2.1, .int .i64 x.2.2.1, .int .u32 x.2.2.2] : List Value).toArray :: u3 :: .pointer (some ⟨g37, 2, none⟩) :: .int .i64 x.2.2.1 :: .slice (some ⟨g43, 0, none⟩) 1 1 :: v46 :: u21 :: U8k4 ([]))) rfl ?_
        refine hK32 _ _ ?_
        refine c_region (fun ops49 hops48 => ?_)
        clear hops48
        refine p_run _ (x_arith (k := .i64) (m := (j : Int)) (n := 1) .add (((j + 1 : Nat) : Int)) rfl rfl rfl (show IntKind.i64.wrap ((j : Int) + 1) = ((j + 1 : Nat) : Int) from ((wr64' (by omega)).trans (by omega))) rfl) rfl ?_
        refine p_run _ (x_move (.int .i64 ((j + 1 : Nat) : Int)) rfl rfl) rfl ?_
        refine wpList_nil ?_
        refine fr_at (l' := (rcV r (some ad) c :: .pointer (some ⟨g5, 0, none⟩) :: .slice none 0 0 :: v46 :: undef :: .pointer (some ⟨g37, 0, none⟩) :: .pointer (some ⟨g5, 4, none⟩) :: .int .i64 r.l :: .slice (some ⟨g12, 0, none⟩) 1 1 :: .pointer (some ⟨g5, 7, none⟩) :: .slice (some ad) r.sn.length c :: .int .i64 (r.sn.length : Int) :: .int .i64 ((j + 1 : Nat) : Int) :: .bool (decide ((j : Int) < (r.sn.length : Int))) :: .pointer (some ((ad).add (j * 4))) :: .agg ([.int .u32 x.1, .int .u32 x.2.1, .int .i64 x.2.2.1, .int .u32 x.2.2.2] : List Value).toArray :: u3 :: .pointer (some ⟨g37, 2, none⟩) :: .int .i64 x.2.2.1 :: .slice (some ⟨g43, 0, none⟩) 1 1 :: v46 :: .int .i64 ((j + 1 : Nat) : Int) :: U8k4 ([]))) rfl ?_
        rw [List.cons_append, ← rt_snoc hx] at HS
        refine hJ22 (j + 1, v46) _ _ ?_ ?_
        · show r.sn.length - (j + 1) < r.sn.length - j; omega
        · exact ⟨_, _, _, _, _, _, _, _, _, _, rfl, ((((HS.front 1 rfl).drop.front 1 rfl).drop.front 1 rfl).front 1 rfl), (by omega)⟩
      · have hlt : j = r.sn.length := by have := of_decide_eq_false hc30; omega
        subst hlt
        rw [List.take_length] at HS
        refine wp_exit ?_
        refine hK16 _ _ ?_
        refine wp_seq_k (fun K50 hK51 => ?_)
        refine c_region (fun ops53 hops52 => ?_)
        clear hops52
        refine p_run _ (x_move (u3) rfl rfl) rfl ?_
        refine p_run _ (x_field (j := 8) _ _ rfl rfl Try.underlying34 rfl (by rfl) rfl) rfl ?_
        refine p_run _ (x_field (j := 15) _ _ rfl rfl Try.underlying32 rfl (by rfl) rfl) rfl ?_
        refine p_run _ (x_load (.int .i64 r.rt) rfl rfl (bkCell (HS.get (.tail _ (.head _))) 15 _ rfl) (by rfl)) rfl ?_
        refine St.wLit1 HS [.int .i64 r.rt] 1 (.int .i64 0) (.int .i64 r.rt) Try.underlying52 (by kernel_rfl) (by decide) rfl rfl rfl ?_
        clear HS
        intro g54 w55 hg56 HS
        replace HS := (HS.front 1 rfl)
        refine St.wAppend HS (.int .i64 0) 8 Try.underlying52 (by kernel_rfl) rfl (by decide) (by decide) [r.rt] _ _ _ rfl rfl (ints_reads (HS.get (.tail _ (.head _))) rfl (by simp)) (fun _ _ h => h) (by simp only [List.length_cons, List.length_map]; omega) ?_
        clear HS
        intro v57 w58 HS
        refine p_run (l' := (rcV r A c :: .pointer (some ⟨g5, 0, none⟩) :: .slice none 0 0 :: v57 :: undef :: u5 :: .pointer (some ⟨g5, 4, none⟩) :: .int .i64 r.l :: .slice (some ⟨g12, 0, none⟩) 1 1 :: .pointer (some ⟨g5, 7, none⟩) :: .slice A r.sn.length c :: .int .i64 (r.sn.length : Int) :: .int .i64 (r.sn.length : Int) :: .bool (decide ((r.sn.length : Int) < (r.sn.length : Int))) :: u14 :: u15 :: u16 :: u17 :: u18 :: u19 :: u20 :: u21 :: u3 :: .pointer (some ⟨g5, 8, none⟩) :: .pointer (some ⟨g5, 15, none⟩) :: .int .i64 r.rt :: .slice (some ⟨g54, 0, none⟩) 1 1 :: v57 :: undef :: undef :: [])) _ (x_assign (v57) rfl rfl) rfl ?_
        refine wpList_nil ?_
        refine hK51 _ _ ?_
        refine wp_seq_k (fun K59 hK60 => ?_)
        refine c_region (fun ops62 hops61 => ?_)
        clear hops61
        refine p_run _ (x_move (v57) rfl rfl) rfl ?_
        refine w_call [v57, .func (.func 46) #[] [].toArray] Try.func45 (by kernel_rfl) (by rfl) rfl ?_
        refine (delf_any HS (by simp) (by simp only [List.length_cons, List.length_append, List.length_map, List.length_nil]; omega)).mono ?_
        clear HS
        rintro e w64 ⟨v63, rfl, HS⟩
        refine ⟨_, rfl, ?_⟩
        refine p_run _ (x_assign (v63) rfl rfl) rfl ?_
        refine wpList_nil ?_
        refine hK60 _ _ ?_
        refine wp_ret ?_
        try simp only [Exit.inBlock, Exit.then]
        refine c_ret (v63) (r_tmp rfl rfl) ?_
        exact ⟨_, rfl, ((HS.front 1 rfl).drop.front 1 rfl).drop⟩
set_option maxRecDepth 10000 in
set_option maxHeartbeats 2000000 in
theorem r14roots_any (w : World) (r : Rc) (A : Option Addr) (c : Nat) (hA : kSn.C w A r.sn.length r.sn) (hl : r.sn.length ≤ 1000) : Calls Try.prog 21 #[rcV r A c] w fun e w' => ∃ v, e = .returned v ∧ St w (fun _ => False) w' [row (Kd.int .i64) rfl 3 v (rtsL r)] := by
  have HS := St.empty w
  · skip
    refine c_enter Try.func21 rfl 42 rfl (rcV r A c :: U32k4 (U8k4 (undef :: []))) rfl ?_
    refine wp_seq_k (fun K1 hK2 => ?_)
    refine c_region (fun ops4 hops3 => ?_)
    clear hops3
    refine St.wBox HS (cs := (.int .u32 r.e :: .bool r.p :: .int .u32 r.b :: .int .u32 r.q :: .int .i64 r.l :: .int .u32 r.xe :: .int .u32 r.xq :: .slice A r.sn.length c :: .int .u64 r.s :: .int .u32 r.te :: .int .u32 r.tq :: .int .u32 r.be :: .int .u32 r.bq :: .int .i64 r.nx :: .int .i64 r.tt :: .int .i64 r.rt :: [])) (rcV r A c) rfl rfl ?_
    clear HS
    intro g5 w6 hg7 HS
    refine p_run _ (x_assign (.slice none 0 0) rfl rfl) rfl ?_
    refine wpList_nil ?_
    refine hK2 _ _ ?_
    refine wp_seq_k (fun K8 hK9 => ?_)
    refine c_region (fun ops11 hops10 => ?_)
    clear hops10
    refine St.wLit0 HS (Kd.int .i64) rfl 1 (.int .i64 0) Try.underlying52 (by kernel_rfl) ?_
    clear HS
    intro v12 w13 HS
    refine p_run _ (x_assign (v12) rfl rfl) rfl ?_
    refine wpList_nil ?_
    refine fr_at (l' := (rcV r A c :: .pointer (some ⟨g5, 0, none⟩) :: .slice none 0 0 :: v12 :: undef :: undef :: v12 :: U32k4 (undef :: undef :: undef :: []))) rfl ?_
    refine hK9 _ _ ?_
    refine wp_seq_k (fun K14 hK15 => ?_)
    have hT16 : ∀ (vg : Value) (q17 : V8) (w18 : World), St w (fun _ => False) w18 ([row (Kd.int .i64) rfl 3 vg (flt [r.l]), blk g5 (.int .u32 r.e :: .bool r.p :: .int .u32 r.b :: .int .u32 r.q :: .int .i64 r.l :: .int .u32 r.xe :: .int .u32 r.xq :: .slice A r.sn.length c :: .int .u64 r.s :: .int .u32 r.te :: .int .u32 r.tq :: .int .u32 r.be :: .int .u32 r.bq :: .int .i64 r.nx :: .int .i64 r.tt :: .int .i64 r.rt :: []) 34]) → (True) → K14 (fr (rcV r A c :: .pointer (some ⟨g5, 0, none⟩) :: .slice none 0 0 :: vg :: undef :: undef :: v12 :: V8.l q17 (U16k4 (U8k4 (undef :: undef :: undef :: []))))) w18 := by
      clear HS
      intro vg q17 w18 HS hJ
      refine hK15 _ _ ?_
      refine wp_seq_k (fun K19 hK20 => ?_)
      refine wp_seq_k (fun K21 hK22 => ?_)
      refine c_region (fun ops24 hops23 => ?_)
      clear hops23
      refine p_run _ (x_field (j := 7) _ _ rfl rfl Try.underlying34 rfl (by rfl) rfl) rfl ?_
      refine p_run _ (x_load (.slice A r.sn.length c) rfl rfl (bkCell (HS.get (.tail _ (.head _))) 7 _ rfl) (by rfl)) rfl ?_
      refine p_run _ (x_len rfl rfl Try.underlying29) rfl ?_
      refine p_run _ (x_move (.int .i64 0) rfl rfl) rfl ?_
      refine wpList_nil ?_
      obtain ⟨qz25, hqz25⟩ : ∃ q_ : V8, q_ = ⟨q17.b, q17.c, q17.d, q17.e, q17.f, q17.g, q17.h, .pointer (some ⟨g5, 7, none⟩)⟩ := ⟨_, rfl⟩
      refine fr_at (l' := (rcV r A c :: .pointer (some ⟨g5, 0, none⟩) :: .slice none 0 0 :: vg :: undef :: undef :: v12 :: q17.a :: V8.l qz25 (.slice A r.sn.length c :: .int .i64 (r.sn.length : Int) :: .int .i64 0 :: U16k4 (U4k4 (undef :: undef :: undef :: []))))) (by subst hqz25; rfl) ?_
      refine hK22 _ _ ?_
      refine wp_block ?_
      refine c_loop (ι := Nat × Value) (fun i_ a_ w_ => match i_ with | (j, u3) => ∃ (u5 : Value) (u19 : Value) (u20 : Value) (u21 : Value) (u22 : Value) (u23 : Value) (u24 : Value) (u25 : Value) (u26 : Value) (u27 : Value) (u28 : Value) (u29 : Value) (u30 : Value), a_ = fr (rcV r A c :: .pointer (some ⟨g5, 0, none⟩) :: .slice none 0 0 :: u3 :: undef :: u5 :: v12 :: q17.a :: V8.l qz25 (.slice A r.sn.length c :: .int .i64 (r.sn.length : Int) :: .int .i64 (j : Int) :: u19 :: u20 :: u21 :: u22 :: u23 :: u24 :: u25 :: u26 :: u27 :: u28 :: u29 :: u30 :: U8k4 (undef :: undef :: undef :: []))) ∧ St w (fun _ => False) w_ ([row (Kd.int .i64) rfl 3 u3 (flt (r.l :: (r.sn.take j).map (·.2.2.1))), blk g5 (.int .u32 r.e :: .bool r.p :: .int .u32 r.b :: .int .u32 r.q :: .int .i64 r.l :: .int .u32 r.xe :: .int .u32 r.xq :: .slice A r.sn.length c :: .int .u64 r.s :: .int .u32 r.te :: .int .u32 r.tq :: .int .u32 r.be :: .int .u32 r.bq :: .int .i64 r.nx :: .int .i64 r.tt :: .int .i64 r.rt :: []) 34]) ∧ (j ≤ r.sn.length)) (fun i_ => match i_ with | (j, u3) => r.sn.length - j) (0, vg) ?_ ?_
      · exact ⟨_, _, _, _, _, _, _, _, _, _, _, _, _, rfl, ((HS.front 1 rfl).front 1 rfl), Nat.zero_le _⟩
      · clear HS
        rintro ⟨j, u3⟩ a_ w28 ⟨u5, u19, u20, u21, u22, u23, u24, u25, u26, u27, u28, u29, u30, rfl, HS, hI⟩ J26 hJ27
        have hjl := hI
        refine wp_seq_k (fun K29 hK30 => ?_)
        refine c_region (fun ops32 hops31 => ?_)
        clear hops31
        refine p_run _ (x_cmp (k := .i64) (m := (j : Int)) (n := (r.sn.length : Int)) .lss (decide ((j : Int) < (r.sn.length : Int))) rfl rfl rfl rfl rfl) rfl ?_
        refine wpList_nil ?_
        refine hK30 _ _ ?_
        refine wp_seq_k (fun K33 hK34 => ?_)
        refine c_cond (t := decide ((j : Int) < (r.sn.length : Int))) rfl (fun hc35 => ?_) (fun hc35 => ?_)
        · have hlt : j < r.sn.length := by have := of_decide_eq_true hc35; omega
          obtain ⟨ad, x, rfl, hx, -⟩ := sn_get (Kd.C_below hA HS.belowOf) j hlt
          refine wp_skip ?_
          refine hK34 _ _ ?_
          refine wp_seq_k (fun K36 hK37 => ?_)
          have hT38 : ∀ (vg : Value) (q39 : V8) (q40 : V8) (w41 : World), St w (fun _ => False) w41 ([row (Kd.int .i64) rfl 3 vg (flt (r.l :: (r.sn.take (j + 1)).map (·.2.2.1))), blk g5 (.int .u32 r.e :: .bool r.p :: .int .u32 r.b :: .int .u32 r.q :: .int .i64 r.l :: .int .u32 r.xe :: .int .u32 r.xq :: .slice (some ad) r.sn.length c :: .int .u64 r.s :: .int .u32 r.te :: .int .u32 r.tq :: .int .u32 r.be :: .int .u32 r.bq :: .int .i64 r.nx :: .int .i64 r.tt :: .int .i64 r.rt :: []) 34]) → (True) → K36 (fr (rcV r (some ad) c :: .pointer (some ⟨g5, 0, none⟩) :: .slice none 0 0 :: vg :: undef :: q39.a :: v12 :: q17.a :: V8.l qz25 (.slice (some ad) r.sn.length c :: .int .i64 (r.sn.length : Int) :: .int .i64 (j : Int) :: .bool (decide ((j : Int) < (r.sn.length : Int))) :: q39.b :: q39.c :: q39.d :: q39.e :: q39.f :: q39.g :: q39.h :: q40.a :: q40.b :: q40.c :: u30 :: U8k4 (undef :: undef :: undef :: [])))) w41 := by
            clear HS
            intro vg q39 q40 w41 HS hJ
            refine hK37 _ _ ?_
            refine c_region (fun ops43 hops42 => ?_)
            clear hops42
            refine p_run _ (x_arith (k := .i64) (m := (j : Int)) (n := 1) .add (((j + 1 : Nat) : Int)) rfl rfl rfl (show IntKind.i64.wrap ((j : Int) + 1) = ((j + 1 : Nat) : Int) from ((wr64' (by omega)).trans (by omega))) rfl) rfl ?_
            refine p_run _ (x_move (.int .i64 ((j + 1 : Nat) : Int)) rfl rfl) rfl ?_
            refine wpList_nil ?_
            refine fr_at (l' := (rcV r (some ad) c :: .pointer (some ⟨g5, 0, none⟩) :: .slice none 0 0 :: vg :: undef :: q39.a :: v12 :: q17.a :: V8.l qz25 (.slice (some ad) r.sn.length c :: .int .i64 (r.sn.length : Int) :: .int .i64 ((j + 1 : Nat) : Int) :: .bool (decide ((j : Int) < (r.sn.length : Int))) :: q39.b :: q39.c :: q39.d :: q39.e :: q39.f :: q39.g :: q39.h :: q40.a :: q40.b :: q40.c :: .int .i64 ((j + 1 : Nat) : Int) :: U8k4 (undef :: undef :: undef :: [])))) rfl ?_
            refine hJ27 (j + 1, vg) _ _ ?_ ?_
            · show r.sn.length - (j + 1) < r.sn.length - j; omega
            · exact ⟨_, _, _, _, _, _, _, _, _, _, _, _, _, rfl, ((HS.front 1 rfl).front 1 rfl), (by omega)⟩
          clear hK37
          refine wp_block ?_
          refine wp_seq_k (fun K44 hK45 => ?_)
          refine c_region (fun ops47 hops46 => ?_)
          clear hops46
          refine p_run _ (x_index (A := ad) (j := j * 4) (sz := 4) rfl rfl rfl Try.underlying29 (by kernel_rfl) (by omega) rfl) rfl ?_
          refine p_run _ (x_loads [.int .u32 x.1, .int .u32 x.2.1, .int .i64 x.2.2.1, .int .u32 x.2.2.2] 4 rfl rfl (sn_cells (Kd.C_below hA HS.belowOf) hx) (by rfl) (by kernel_rfl) rfl) rfl ?_
          refine St.wAlloc HS (cs := [.int .u32 0, .int .u32 0, .int .i64 0, .int .u32 0]) (.agg [.int .u32 0, .int .u32 0, .int .i64 0, .int .u32 0].toArray) (by kernel_rfl) rfl ?_
          clear HS
          intro g48 w49 hg50 HS
          refine St.stores (cs' := [.int .u32 x.1, .int .u32 x.2.1, .int .i64 x.2.2.1, .int .u32 x.2.2.2]) HS [.int .u32 x.1, .int .u32 x.2.1, .int .i64 x.2.2.1, .int .u32 x.2.2.2] 4 rfl rfl (by rfl) (by kernel_rfl) rfl (by simp) rfl ?_
          clear HS
          intro w51 HS
          refine wpList_nil ?_
          refine hK45 _ _ ?_
          refine wp_seq_k (fun K52 hK53 => ?_)
          refine c_region (fun ops55 hops54 => ?_)
          clear hops54
          refine p_run _ (x_field (j := 2) _ _ rfl rfl Try.underlying48 rfl (by rfl) rfl) rfl ?_
          refine p_run _ (x_load (.int .i64 x.2.2.1) rfl rfl (bkCell (HS.get (.head _)) 2 _ rfl) (by rfl)) rfl ?_
          refine p_run _ (x_cmp (k := .i64) (m := x.2.2.1) (n := -1) .neq (x.2.2.1 != (-1)) rfl rfl rfl rfl rfl) rfl ?_
          refine wpList_nil ?_
          refine fr_at (l' := (rcV r (some ad) c :: .pointer (some ⟨g5, 0, none⟩) :: .slice none 0 0 :: u3 :: undef :: .pointer (some ⟨g48, 0, none⟩) :: v12 :: q17.a :: V8.l qz25 (.slice (some ad) r.sn.length c :: .int .i64 (r.sn.length : Int) :: .int .i64 (j : Int) :: .bool (decide ((j : Int) < (r.sn.length : Int))) :: .pointer (some ((ad).add (j * 4))) :: .agg ([.int .u32 x.1, .int .u32 x.2.1, .int .i64 x.2.2.1, .int .u32 x.2.2.2] : List Value).toArray :: .pointer (some ⟨g48, 2, none⟩) :: .int .i64 x.2.2.1 :: .bool (x.2.2.1 != (-1)) :: u25 :: u26 :: u27 :: u28 :: u29 :: u30 :: U8k4 (undef :: undef :: undef :: [])))) rfl ?_
          refine hK53 _ _ ?_
          refine c_cond (t := (x.2.2.1 != (-1))) rfl (fun hc56 => ?_) (fun hc56 => ?_)
          · refine c_region (fun ops58 hops57 => ?_)
            clear hops57
            refine p_run _ (x_move (u3) rfl rfl) rfl ?_
            refine p_run _ (x_field (j := 2) _ _ rfl rfl Try.underlying48 rfl (by rfl) rfl) rfl ?_
            refine p_run _ (x_load (.int .i64 x.2.2.1) rfl rfl (bkCell (HS.get (.head _)) 2 _ rfl) (by rfl)) rfl ?_
            refine St.wLit1 HS [.int .i64 x.2.2.1] 1 (.int .i64 0) (.int .i64 x.2.2.1) Try.underlying52 (by kernel_rfl) (by decide) rfl rfl rfl ?_
            clear HS
            intro g59 w60 hg61 HS
            replace HS := (HS.front 2 rfl)
            refine St.wAppend HS (.int .i64 0) 8 Try.underlying52 (by kernel_rfl) rfl (by decide) (by decide) [x.2.2.1] _ _ _ rfl rfl (ints_reads (HS.get (.tail _ (.head _))) rfl (by simp)) (fun _ _ h => h) (by have h_ := List.length_filter_le (fun x : Int => decide (x ≠ -1)) (r.l :: (r.sn.take j).map (·.2.2.1)); simp only [List.length_cons, List.length_map, List.length_take, flt] at h_ ⊢; omega) ?_
            clear HS
            intro v62 w63 HS
            refine p_run _ (x_assign (v62) rfl rfl) rfl ?_
            refine wpList_nil ?_
            refine fr_at (l' := (rcV r (some ad) c :: .pointer (some ⟨g5, 0, none⟩) :: .slice none 0 0 :: v62 :: undef :: .pointer (some ⟨g48, 0, none⟩) :: v12 :: q17.a :: V8.l qz25 (.slice (some ad) r.sn.length c :: .int .i64 (r.sn.length : Int) :: .int .i64 (j : Int) :: .bool (decide ((j : Int) < (r.sn.length : Int))) :: .pointer (some ((ad).add (j * 4))) :: .agg ([.int .u32 x.1, .int .u32 x.2.1, .int .i64 x.2.2.1, .int .u32 x.2.2.2] : List Value).toArray :: .pointer (some ⟨g48, 2, none⟩) :: .int .i64 x.2.2.1 :: .bool (x.2.2.1 != (-1)) :: u3 :: .pointer (some ⟨g48, 2, none⟩) :: .int .i64 x.2.2.1 :: .slice (some ⟨g59, 0, none⟩) 1 1 :: v62 :: u30 :: U8k4 (undef :: undef :: undef :: [])))) rfl ?_
            have hx1 : x.2.2.1 ≠ -1 := by have := hc56; simpa using this
            rw [← flt_yes hx1, ← flt_app, List.cons_append, ← rt_snoc hx] at HS
            exact hT38 v62 ⟨.pointer (some ⟨g48, 0, none⟩), .pointer (some ((ad).add (j * 4))), .agg ([.int .u32 x.1, .int .u32 x.2.1, .int .i64 x.2.2.1, .int .u32 x.2.2.2] : List Value).toArray, .pointer (some ⟨g48, 2, none⟩), .int .i64 x.2.2.1, .bool (x.2.2.1 != (-1)), u3, .pointer (some ⟨g48, 2, none⟩)⟩ ⟨.int .i64 x.2.2.1, .slice (some ⟨g59, 0, none⟩) 1 1, v62, undef, undef, undef, undef, undef⟩ _ ((((HS.front 1 rfl).drop.front 1 rfl).drop.front 1 rfl).front 1 rfl) trivial
          · refine wp_skip ?_
            replace HS := (HS.front 1 rfl)
            have hx1 : x.2.2.1 = -1 := by have := hc56; simpa using this
            replace HS : St w (fun _ => False) w51 ([row (Kd.int .i64) rfl 3 u3 (flt (r.l :: (r.sn.take (j + 1)).map (·.2.2.1))), blk g48 [.int .u32 x.1, .int .u32 x.2.1, .int .i64 x.2.2.1, .int .u32 x.2.2.2] 48, blk g5 (.int .u32 r.e :: .bool r.p :: .int .u32 r.b :: .int .u32 r.q :: .int .i64 r.l :: .int .u32 r.xe :: .int .u32 r.xq :: .slice (some ad) r.sn.length c :: .int .u64 r.s :: .int .u32 r.te :: .int .u32 r.tq :: .int .u32 r.be :: .int .u32 r.bq :: .int .i64 r.nx :: .int .i64 r.tt :: .int .i64 r.rt :: []) 34]) := by rw [rt_snoc hx, ← List.cons_append, flt_app, flt_no hx1, List.append_nil]; exact HS
            exact hT38 u3 ⟨.pointer (some ⟨g48, 0, none⟩), .pointer (some ((ad).add (j * 4))), .agg ([.int .u32 x.1, .int .u32 x.2.1, .int .i64 x.2.2.1, .int .u32 x.2.2.2] : List Value).toArray, .pointer (some ⟨g48, 2, none⟩), .int .i64 x.2.2.1, .bool (x.2.2.1 != (-1)), u25, u26⟩ ⟨u27, u28, u29, undef, undef, undef, undef, undef⟩ _ (((HS.front 1 rfl).drop.front 1 rfl).front 1 rfl) trivial
        · have hlt : j = r.sn.length := by have := of_decide_eq_false hc35; omega
          subst hlt
          rw [List.take_length] at HS
          refine wp_exit ?_
          refine hK20 _ _ ?_
          refine wp_seq_k (fun K64 hK65 => ?_)
          have hT66 : ∀ (vg : Value) (q67 : V8) (q68 : V8) (w69 : World), St w (fun _ => False) w69 ([row (Kd.int .i64) rfl 3 vg (flt (r.l :: (r.sn.map (·.2.2.1) ++ [r.rt])))]) → (True) → K64 (fr (rcV r A c :: .pointer (some ⟨g5, 0, none⟩) :: .slice none 0 0 :: vg :: undef :: u5 :: v12 :: q17.a :: V8.l qz25 (.slice A r.sn.length c :: .int .i64 (r.sn.length : Int) :: .int .i64 (r.sn.length : Int) :: .bool (decide ((r.sn.length : Int) < (r.sn.length : Int))) :: u20 :: u21 :: u22 :: u23 :: u24 :: u25 :: u26 :: u27 :: u28 :: u29 :: u30 :: V8.l q67 (q68.a :: q68.b :: undef :: [])))) w69 := by
            clear HS
            intro vg q67 q68 w69 HS hJ
            refine hK65 _ _ ?_
            refine wp_seq_k (fun K70 hK71 => ?_)
            refine c_region (fun ops73 hops72 => ?_)
            clear hops72
            refine p_run _ (x_move (vg) rfl rfl) rfl ?_
            refine p_run _ (x_assign (vg) rfl rfl) rfl ?_
            refine wpList_nil ?_
            refine hK71 _ _ ?_
            refine wp_ret ?_
            try simp only [Exit.inBlock, Exit.then]
            refine c_ret (vg) (r_tmp rfl rfl) ?_
            exact ⟨_, rfl, HS⟩
          clear hK65
          refine wp_seq_k (fun K74 hK75 => ?_)
          refine c_region (fun ops77 hops76 => ?_)
          clear hops76
          refine p_run _ (x_field (j := 8) _ _ rfl rfl Try.underlying34 rfl (by rfl) rfl) rfl ?_
          refine p_run _ (x_field (j := 15) _ _ rfl rfl Try.underlying32 rfl (by rfl) rfl) rfl ?_
          refine p_run _ (x_load (.int .i64 r.rt) rfl rfl (bkCell (HS.get (.tail _ (.head _))) 15 _ rfl) (by rfl)) rfl ?_
          refine p_run _ (x_cmp (k := .i64) (m := r.rt) (n := -1) .neq (r.rt != (-1)) rfl rfl rfl rfl rfl) rfl ?_
          refine wpList_nil ?_
          refine fr_at (l' := (rcV r A c :: .pointer (some ⟨g5, 0, none⟩) :: .slice none 0 0 :: u3 :: undef :: u5 :: v12 :: q17.a :: V8.l qz25 (.slice A r.sn.length c :: .int .i64 (r.sn.length : Int) :: .int .i64 (r.sn.length : Int) :: .bool (decide ((r.sn.length : Int) < (r.sn.length : Int))) :: u20 :: u21 :: u22 :: u23 :: u24 :: u25 :: u26 :: u27 :: u28 :: u29 :: u30 :: .pointer (some ⟨g5, 8, none⟩) :: .pointer (some ⟨g5, 15, none⟩) :: .int .i64 r.rt :: .bool (r.rt != (-1)) :: U4k4 (undef :: undef :: undef :: [])))) rfl ?_
          refine hK75 _ _ ?_
          refine c_cond (t := (r.rt != (-1))) rfl (fun hc78 => ?_) (fun hc78 => ?_)
          · refine c_region (fun ops80 hops79 => ?_)
            clear hops79
            refine p_run _ (x_move (u3) rfl rfl) rfl ?_
            refine p_run _ (x_field (j := 8) _ _ rfl rfl Try.underlying34 rfl (by rfl) rfl) rfl ?_
            refine p_run _ (x_field (j := 15) _ _ rfl rfl Try.underlying32 rfl (by rfl) rfl) rfl ?_
            refine p_run _ (x_load (.int .i64 r.rt) rfl rfl (bkCell (HS.get (.tail _ (.head _))) 15 _ rfl) (by rfl)) rfl ?_
            refine St.wLit1 HS [.int .i64 r.rt] 1 (.int .i64 0) (.int .i64 r.rt) Try.underlying52 (by kernel_rfl) (by decide) rfl rfl rfl ?_
            clear HS
            intro g81 w82 hg83 HS
            replace HS := (HS.front 1 rfl)
            refine St.wAppend HS (.int .i64 0) 8 Try.underlying52 (by kernel_rfl) rfl (by decide) (by decide) [r.rt] _ _ _ rfl rfl (ints_reads (HS.get (.tail _ (.head _))) rfl (by simp)) (fun _ _ h => h) (by have h_ := List.length_filter_le (fun x : Int => decide (x ≠ -1)) (r.l :: r.sn.map (·.2.2.1)); simp only [List.length_cons, List.length_map, flt] at h_ ⊢; omega) ?_
            clear HS
            intro v84 w85 HS
            refine p_run (l' := (rcV r A c :: .pointer (some ⟨g5, 0, none⟩) :: .slice none 0 0 :: v84 :: undef :: u5 :: v12 :: q17.a :: V8.l qz25 (.slice A r.sn.length c :: .int .i64 (r.sn.length : Int) :: .int .i64 (r.sn.length : Int) :: .bool (decide ((r.sn.length : Int) < (r.sn.length : Int))) :: u20 :: u21 :: u22 :: u23 :: u24 :: u25 :: u26 :: u27 :: u28 :: u29 :: u30 :: .pointer (some ⟨g5, 8, none⟩) :: .pointer (some ⟨g5, 15, none⟩) :: .int .i64 r.rt :: .bool (r.rt != (-1)) :: u3 :: .pointer (some ⟨g5, 8, none⟩) :: .pointer (some ⟨g5, 15, none⟩) :: .int .i64 r.rt :: .slice (some ⟨g81, 0, none⟩) 1 1 :: v84 :: undef :: []))) _ (x_assign (v84) rfl rfl) rfl ?_
            refine wpList_nil ?_
            have hx1 : r.rt ≠ -1 := by have := hc78; simpa using this
            rw [← flt_yes hx1, ← flt_app, List.cons_append] at HS
            exact hT66 v84 ⟨.pointer (some ⟨g5, 8, none⟩), .pointer (some ⟨g5, 15, none⟩), .int .i64 r.rt, .bool (r.rt != (-1)), u3, .pointer (some ⟨g5, 8, none⟩), .pointer (some ⟨g5, 15, none⟩), .int .i64 r.rt⟩ ⟨.slice (some ⟨g81, 0, none⟩) 1 1, v84, undef, undef, undef, undef, undef, undef⟩ _ (((HS.front 1 rfl).drop.front 1 rfl).drop) trivial
          · refine wp_skip ?_
            have hx1 : r.rt = -1 := by have := hc78; simpa using this
            replace HS : St w (fun _ => False) w28 ([row (Kd.int .i64) rfl 3 u3 (flt (r.l :: (r.sn.map (·.2.2.1) ++ [r.rt]))), blk g5 (.int .u32 r.e :: .bool r.p :: .int .u32 r.b :: .int .u32 r.q :: .int .i64 r.l :: .int .u32 r.xe :: .int .u32 r.xq :: .slice A r.sn.length c :: .int .u64 r.s :: .int .u32 r.te :: .int .u32 r.tq :: .int .u32 r.be :: .int .u32 r.bq :: .int .i64 r.nx :: .int .i64 r.tt :: .int .i64 r.rt :: []) 34]) := by rw [← List.cons_append, flt_app, flt_no hx1, List.append_nil]; exact HS
            exact hT66 u3 ⟨.pointer (some ⟨g5, 8, none⟩), .pointer (some ⟨g5, 15, none⟩), .int .i64 r.rt, .bool (r.rt != (-1)), undef, undef, undef, undef⟩ ⟨undef, undef, undef, undef, undef, undef, undef, undef⟩ _ ((HS.front 1 rfl).drop) trivial
    clear hK15
    refine wp_seq_k (fun K86 hK87 => ?_)
    refine c_region (fun ops89 hops88 => ?_)
    clear hops88
    refine p_run _ (x_field (j := 4) _ _ rfl rfl Try.underlying34 rfl (by rfl) rfl) rfl ?_
    refine p_run _ (x_load (.int .i64 r.l) rfl rfl (bkCell (HS.get (.tail _ (.head _))) 4 _ rfl) (by rfl)) rfl ?_
    refine p_run _ (x_cmp (k := .i64) (m := r.l) (n := -1) .neq (r.l != (-1)) rfl rfl rfl rfl rfl) rfl ?_
    refine wpList_nil ?_
    refine hK87 _ _ ?_
    refine c_cond (t := (r.l != (-1))) rfl (fun hc90 => ?_) (fun hc90 => ?_)
    · refine c_region (fun ops92 hops91 => ?_)
      clear hops91
      refine p_run _ (x_move (v12) rfl rfl) rfl ?_
      refine p_run _ (x_field (j := 4) _ _ rfl rfl Try.underlying34 rfl (by rfl) rfl) rfl ?_
      refine p_run _ (x_load (.int .i64 r.l) rfl rfl (bkCell (HS.get (.tail _ (.head _))) 4 _ rfl) (by rfl)) rfl ?_
      refine St.wLit1 HS [.int .i64 r.l] 1 (.int .i64 0) (.int .i64 r.l) Try.underlying52 (by kernel_rfl) (by decide) rfl rfl rfl ?_
      clear HS
      intro g93 w94 hg95 HS
      refine fr_to (l' := (rcV r A c :: .pointer (some ⟨g5, 0, none⟩) :: .slice none 0 0 :: v12 :: undef :: undef :: v12 :: .pointer (some ⟨g5, 4, none⟩) :: .int .i64 r.l :: .bool (r.l != (-1)) :: v12 :: .pointer (some ⟨g5, 4, none⟩) :: .int .i64 r.l :: .slice (some ⟨g93, 0, none⟩) 1 1 :: U16k4 (U8k4 (U4k4 ([]))))) rfl ?_
      replace HS := (HS.front 1 rfl)
      refine St.wAppend HS (.int .i64 0) 8 Try.underlying52 (by kernel_rfl) rfl (by decide) (by decide) [r.l] _ _ _ rfl rfl (ints_reads (HS.get (.tail _ (.head _))) rfl (by simp)) (fun _ _ h => h) (by simp only [List.length_nil, List.length_cons]; omega) ?_
      clear HS
      intro v96 w97 HS
      refine p_run _ (x_assign (v96) rfl rfl) rfl ?_
      refine wpList_nil ?_
      refine fr_at (l' := (rcV r A c :: .pointer (some ⟨g5, 0, none⟩) :: .slice none 0 0 :: v96 :: undef :: undef :: v12 :: .pointer (some ⟨g5, 4, none⟩) :: .int .i64 r.l :: .bool (r.l != (-1)) :: v12 :: .pointer (some ⟨g5, 4, none⟩) :: .int .i64 r.l :: .slice (some ⟨g93, 0, none⟩) 1 1 :: v96 :: U16k4 (U8k4 (undef :: undef :: undef :: [])))) rfl ?_
      have hx1 : r.l ≠ -1 := by have := hc90; simpa using this
      rw [List.nil_append, ← flt_yes hx1] at HS
      exact hT16 v96 ⟨.pointer (some ⟨g5, 4, none⟩), .int .i64 r.l, .bool (r.l != (-1)), v12, .pointer (some ⟨g5, 4, none⟩), .int .i64 r.l, .slice (some ⟨g93, 0, none⟩) 1 1, v96⟩ _ (((HS.front 1 rfl).drop.front 1 rfl).front 1 rfl) trivial
    · refine wp_skip ?_
      have hx1 : r.l = -1 := by have := hc90; simpa using this
      replace HS : St w (fun _ => False) w13 ([row (Kd.int .i64) rfl 3 v12 (flt [r.l]), blk g5 (.int .u32 r.e :: .bool r.p :: .int .u32 r.b :: .int .u32 r.q :: .int .i64 r.l :: .int .u32 r.xe :: .int .u32 r.xq :: .slice A r.sn.length c :: .int .u64 r.s :: .int .u32 r.te :: .int .u32 r.tq :: .int .u32 r.be :: .int .u32 r.bq :: .int .i64 r.nx :: .int .i64 r.tt :: .int .i64 r.rt :: []) 34]) := by rw [flt_no hx1]; exact HS
      exact hT16 v12 ⟨.pointer (some ⟨g5, 4, none⟩), .int .i64 r.l, .bool (r.l != (-1)), undef, undef, undef, undef, undef⟩ _ ((HS.front 1 rfl).front 1 rfl) trivial
set_option maxRecDepth 10000 in
set_option maxHeartbeats 1000000 in
theorem ieq_any (w : World) (A : Option Addr) (c : Nat) (xs : List Int) (hr : (Kd.int .i64).C w A xs.length xs) (B : Option Addr) (d : Nat) (ys : List Int) (hr2 : (Kd.int .i64).C w B ys.length ys) (hl : xs.length ≤ 100000) (hl2 : ys.length ≤ 100000) : Calls Try.prog 19 #[.slice A xs.length c, .slice B ys.length d] w fun e w' => e = .returned (.bool (decide (xs = ys))) ∧ Below w.heap.size w w' := by
  have HS := St.empty w
  by_cases hln : xs.length = ys.length
  · skip
    refine c_enter Try.func19 rfl 26 rfl (.slice A xs.length c :: .slice B ys.length d :: U16k4 (U8k4 ([]))) rfl ?_
    refine wp_seq_k (fun K1 hK2 => ?_)
    refine c_region (fun ops4 hops3 => ?_)
    clear hops3
    refine p_run _ (x_assign (.bool false) rfl rfl) rfl ?_
    refine wpList_nil ?_
    refine hK2 _ _ ?_
    refine wp_seq_k (fun K5 hK6 => ?_)
    refine wp_seq_k (fun K7 hK8 => ?_)
    refine c_region (fun ops10 hops9 => ?_)
    clear hops9
    refine p_run _ (x_move (.slice A xs.length c) rfl rfl) rfl ?_
    refine p_run _ (x_len rfl rfl Try.underlying52) rfl ?_
    refine p_run _ (x_move (.slice B ys.length d) rfl rfl) rfl ?_
    refine p_run _ (x_len rfl rfl Try.underlying52) rfl ?_
    refine p_run _ (x_cmp (k := .i64) (m := (xs.length : Int)) (n := (ys.length : Int)) .neq false rfl rfl rfl (eqI (by omega)) rfl) rfl ?_
    refine wpList_nil ?_
    refine fr_at (l' := (.slice A xs.length c :: .slice B ys.length d :: undef :: undef :: .bool false :: undef :: .slice A xs.length c :: .int .i64 (xs.length : Int) :: .slice B ys.length d :: .int .i64 (ys.length : Int) :: .bool false :: U8k4 (U4k4 (undef :: undef :: undef :: [])))) rfl ?_
    refine hK8 _ _ ?_
    refine c_false rfl ?_
    refine wp_skip ?_
    refine hK6 _ _ ?_
    refine wp_seq_k (fun K11 hK12 => ?_)
    refine wp_seq_k (fun K13 hK14 => ?_)
    refine c_region (fun ops16 hops15 => ?_)
    clear hops15
    refine p_run _ (x_move (.slice A xs.length c) rfl rfl) rfl ?_
    refine p_run _ (x_len rfl rfl Try.underlying52) rfl ?_
    refine p_run _ (x_move (.int .i64 0) rfl rfl) rfl ?_
    refine wpList_nil ?_
    refine fr_at (l' := (.slice A xs.length c :: .slice B ys.length d :: undef :: undef :: .bool false :: undef :: .slice A xs.length c :: .int .i64 (xs.length : Int) :: .slice B ys.length d :: .int .i64 (ys.length : Int) :: .bool false :: .slice A xs.length c :: .int .i64 (xs.length : Int) :: .int .i64 0 :: U8k4 (U4k4 ([])))) rfl ?_
    refine hK14 _ _ ?_
    refine wp_block ?_
    refine c_loop (ι := Nat) (fun i_ a_ w_ => match i_ with | j => ∃ (u4 : Value) (u5 : Value) (u14 : Value) (u15 : Value) (u16 : Value) (u17 : Value) (u18 : Value) (u19 : Value) (u20 : Value) (u21 : Value) (u22 : Value) (u23 : Value) (u24 : Value) (u25 : Value), a_ = fr (.slice A xs.length c :: .slice B ys.length d :: undef :: undef :: u4 :: u5 :: .slice A xs.length c :: .int .i64 (xs.length : Int) :: .slice B ys.length d :: .int .i64 (ys.length : Int) :: .bool false :: .slice A xs.length c :: .int .i64 (xs.length : Int) :: .int .i64 (j : Int) :: u14 :: u15 :: u16 :: u17 :: u18 :: u19 :: u20 :: u21 :: u22 :: u23 :: u24 :: u25 :: []) ∧ St w (fun _ => False) w_ ([]) ∧ (j ≤ xs.length ∧ xs.take j = ys.take j)) (fun i_ => match i_ with | j => xs.length - j) 0 ?_ ?_
    · exact ⟨_, _, _, _, _, _, _, _, _, _, _, _, _, _, rfl, HS, ⟨Nat.zero_le _, rfl⟩⟩
    · clear HS
      rintro j a_ w19 ⟨u4, u5, u14, u15, u16, u17, u18, u19, u20, u21, u22, u23, u24, u25, rfl, HS, hI⟩ J17 hJ18
      have hjl := hI.1
      refine wp_seq_k (fun K20 hK21 => ?_)
      refine c_region (fun ops23 hops22 => ?_)
      clear hops22
      refine p_run _ (x_cmp (k := .i64) (m := (j : Int)) (n := (xs.length : Int)) .lss (decide ((j : Int) < (xs.length : Int))) rfl rfl rfl rfl rfl) rfl ?_
      refine wpList_nil ?_
      refine hK21 _ _ ?_
      refine wp_seq_k (fun K24 hK25 => ?_)
      refine c_cond (t := decide ((j : Int) < (xs.length : Int))) rfl (fun hc26 => ?_) (fun hc26 => ?_)
      · have hlt : j < xs.length := by have := of_decide_eq_true hc26; omega
        obtain ⟨ad, x, rfl, hx, hc1⟩ := ii_get (Kd.C_below hr HS.belowOf) j hlt
        obtain ⟨ae, y, rfl, hy, hc2⟩ := ii_get (Kd.C_below hr2 HS.belowOf) j (by omega)
        refine wp_skip ?_
        refine hK25 _ _ ?_
        refine wp_seq_k (fun K27 hK28 => ?_)
        refine wp_block ?_
        refine wp_seq_k (fun K29 hK30 => ?_)
        refine c_region (fun ops32 hops31 => ?_)
        clear hops31
        refine p_run _ (x_move (.int .i64 (j : Int)) rfl rfl) rfl ?_
        refine p_run _ (x_assign (.int .i64 (j : Int)) rfl rfl) rfl ?_
        refine wpList_nil ?_
        refine hK30 _ _ ?_
        refine wp_seq_k (fun K33 hK34 => ?_)
        by_cases hxy : x = y
        · skip
          refine free_frame (n := 9) (T := _) [0, 0, 3, 7, 0, 0, 48, 112, 255] [(0, 16), (1, 17), (2, 18), (3, 19), (4, 20), (5, 21), (6, 22), (7, 23), (8, 24)] (fun bq_ vq_ w_ => qv ((fun i_ => match i_ with | 0 => some (.slice (some ad) xs.length c) | 1 => some (.int .i64 (j : Int)) | 2 => some (.pointer (some ((ad).add (j * 1)))) | 3 => some (.int .i64 x) | 4 => some (.slice (some ae) ys.length d) | 5 => some (.int .i64 (j : Int)) | 6 => some (.pointer (some ((ae).add (j * 1)))) | 7 => some (.int .i64 y) | 8 => some (.bool false) | _ => none) : Nat → Option Value) bq_ vq_ ∧ (St w (fun _ => False) w_ ([]))) (by kernel_rfl) rfl rfl (by kernel_rfl) (by kernel_rfl) rfl (by kernel_rfl) (by kernel_rfl) ⟨qv_none, HS.draw⟩ ?_ ?_
          · clear HS
            intro i_ hi_ bq_ vq_ a_ w_ hG hb_ hon hoff hfr hel hval
            obtain ⟨hV, hE⟩ := hG
            have hi_ := List.mem_range.1 hi_
            obtain ⟨l_, rfl⟩ := hfr
            have hv_ := fun (j t : Nat) (v : Value) (h1 : (j, t) ∈ [(0, 16), (1, 17), (2, 18), (3, 19), (4, 20), (5, 21), (6, 22), (7, 23), (8, 24)]) h2 h3 => (hval (j, t) h1 h3).trans (congrArg some (hV j v h2 h3))
            have hcs : i_ = 0 ∨ i_ = 1 ∨ i_ = 2 ∨ i_ = 3 ∨ i_ = 4 ∨ i_ = 5 ∨ i_ = 6 ∨ i_ = 7 ∨ i_ = 8 := by omega
            rcases hcs with rfl | rfl | rfl | rfl | rfl | rfl | rfl | rfl | rfl
            · have e0 : evl l_ (.tmp 0) = .slice (some ad) xs.length c := evl_of ((hel 0 (by decide)).trans rfl)
              exact ⟨_, rfl, fun K_ hK_ => q_op _ (x_move (.slice (some ad) xs.length c) rfl e0) (hK_ _ _ ⟨qv_up hV (fun _ h => Option.some.inj h), hE⟩)⟩
            · have e5 : evl l_ (.tmp 5) = .int .i64 (j : Int) := evl_of ((hel 5 (by decide)).trans rfl)
              exact ⟨_, rfl, fun K_ hK_ => q_op _ (x_move (.int .i64 (j : Int)) rfl e5) (hK_ _ _ ⟨qv_up hV (fun _ h => Option.some.inj h), hE⟩)⟩
            · have e16 : evl l_ (.tmp 16) = .slice (some ad) xs.length c := evl_of (hv_ 0 16 _ (by decide) rfl (hon 0 (by decide)))
              have e17 : evl l_ (.tmp 17) = .int .i64 (j : Int) := evl_of (hv_ 1 17 _ (by decide) rfl (hon 1 (by decide)))
              exact ⟨_, rfl, fun K_ hK_ => q_op _ (x_index (A := ad) (j := j * 1) (sz := 1) rfl e16 e17 Try.underlying52 (by kernel_rfl) (by omega) rfl) (hK_ _ _ ⟨qv_up hV (fun _ h => Option.some.inj h), hE⟩)⟩
            · have hE0 := hE
              have HS := hE0
              have e18 : evl l_ (.tmp 18) = .pointer (some ((ad).add (j * 1))) := evl_of (hv_ 2 18 _ (by decide) rfl (hon 2 (by decide)))
              exact ⟨_, rfl, fun K_ hK_ => q_op _ (x_load (.int .i64 x) rfl e18 (ii_cell (Kd.C_below hr HS.belowOf) hx) (by rfl)) (hK_ _ _ ⟨qv_up hV (fun _ h => Option.some.inj h), hE⟩)⟩
            · have e1 : evl l_ (.tmp 1) = .slice (some ae) ys.length d := evl_of ((hel 1 (by decide)).trans rfl)
              exact ⟨_, rfl, fun K_ hK_ => q_op _ (x_move (.slice (some ae) ys.length d) rfl e1) (hK_ _ _ ⟨qv_up hV (fun _ h => Option.some.inj h), hE⟩)⟩
            · have e5 : evl l_ (.tmp 5) = .int .i64 (j : Int) := evl_of ((hel 5 (by decide)).trans rfl)
              exact ⟨_, rfl, fun K_ hK_ => q_op _ (x_move (.int .i64 (j : Int)) rfl e5) (hK_ _ _ ⟨qv_up hV (fun _ h => Option.some.inj h), hE⟩)⟩
            · have e20 : evl l_ (.tmp 20) = .slice (some ae) ys.length d := evl_of (hv_ 4 20 _ (by decide) rfl (hon 4 (by decide)))
              have e21 : evl l_ (.tmp 21) = .int .i64 (j : Int) := evl_of (hv_ 5 21 _ (by decide) rfl (hon 5 (by decide)))
              exact ⟨_, rfl, fun K_ hK_ => q_op _ (x_index (A := ae) (j := j * 1) (sz := 1) rfl e20 e21 Try.underlying52 (by kernel_rfl) (by omega) rfl) (hK_ _ _ ⟨qv_up hV (fun _ h => Option.some.inj h), hE⟩)⟩
            · have hE0 := hE
              have HS := hE0
              have e22 : evl l_ (.tmp 22) = .pointer (some ((ae).add (j * 1))) := evl_of (hv_ 6 22 _ (by decide) rfl (hon 6 (by decide)))
              exact ⟨_, rfl, fun K_ hK_ => q_op _ (x_load (.int .i64 y) rfl e22 (ii_cell (Kd.C_below hr2 HS.belowOf) hy) (by rfl)) (hK_ _ _ ⟨qv_up hV (fun _ h => Option.some.inj h), hE⟩)⟩
            · have e19 : evl l_ (.tmp 19) = .int .i64 x := evl_of (hv_ 3 19 _ (by decide) rfl (hon 3 (by decide)))
              have e23 : evl l_ (.tmp 23) = .int .i64 y := evl_of (hv_ 7 23 _ (by decide) rfl (hon 7 (by decide)))
              exact ⟨_, rfl, fun K_ hK_ => q_op _ (x_cmp (k := .i64) (m := x) (n := y) .neq false rfl e19 e23 (eqI hxy) rfl) (hK_ _ _ ⟨qv_up hV (fun _ h => Option.some.inj h), hE⟩)⟩
          intro bq_ vq_ w_ hall hG
          obtain ⟨hV, hE⟩ := hG
          clear HS
          have HS := hE
          have hv0 := hV 0 _ rfl (hall 0 (by decide))
          have hv1 := hV 1 _ rfl (hall 1 (by decide))
          have hv2 := hV 2 _ rfl (hall 2 (by decide))
          have hv3 := hV 3 _ rfl (hall 3 (by decide))
          have hv4 := hV 4 _ rfl (hall 4 (by decide))
          have hv5 := hV 5 _ rfl (hall 5 (by decide))
          have hv6 := hV 6 _ rfl (hall 6 (by decide))
          have hv7 := hV 7 _ rfl (hall 7 (by decide))
          have hv8 := hV 8 _ rfl (hall 8 (by decide))
          clear hV hall
          rw [putSel_fr]
          simp only [tells, List.map_cons, List.map_nil, setAll, List.set_cons_succ, List.set_cons_zero, hv0, hv1, hv2, hv3, hv4, hv5, hv6, hv7, hv8]
          clear hv0 hv1 hv2 hv3 hv4 hv5 hv6 hv7 hv8
          generalize w_ = w900701 at HS ⊢
          refine fr_at (l' := (.slice (some ad) xs.length c :: .slice (some ae) ys.length d :: undef :: undef :: u4 :: .int .i64 (j : Int) :: .slice (some ad) xs.length c :: .int .i64 (xs.length : Int) :: .slice (some ae) ys.length d :: .int .i64 (ys.length : Int) :: .bool false :: .slice (some ad) xs.length c :: .int .i64 (xs.length : Int) :: .int .i64 (j : Int) :: .bool (decide ((j : Int) < (xs.length : Int))) :: .int .i64 (j : Int) :: .slice (some ad) xs.length c :: .int .i64 (j : Int) :: .pointer (some ((ad).add (j * 1))) :: .int .i64 x :: .slice (some ae) ys.length d :: .int .i64 (j : Int) :: .pointer (some ((ae).add (j * 1))) :: .int .i64 y :: .bool false :: u25 :: [])) rfl ?_
          refine hK34 _ _ ?_
          refine c_false rfl ?_
          refine wp_skip ?_
          refine hK28 _ _ ?_
          refine c_region (fun ops900703 hops900702 => ?_)
          clear hops900702
          refine p_run _ (x_arith (k := .i64) (m := (j : Int)) (n := 1) .add (((j + 1 : Nat) : Int)) rfl rfl rfl (show IntKind.i64.wrap ((j : Int) + 1) = ((j + 1 : Nat) : Int) from ((wr64' (by omega)).trans (by omega))) rfl) rfl ?_
          refine p_run _ (x_move (.int .i64 ((j + 1 : Nat) : Int)) rfl rfl) rfl ?_
          refine wpList_nil ?_
          refine fr_at (l' := (.slice (some ad) xs.length c :: .slice (some ae) ys.length d :: undef :: undef :: u4 :: .int .i64 (j : Int) :: .slice (some ad) xs.length c :: .int .i64 (xs.length : Int) :: .slice (some ae) ys.length d :: .int .i64 (ys.length : Int) :: .bool false :: .slice (some ad) xs.length c :: .int .i64 (xs.length : Int) :: .int .i64 ((j + 1 : Nat) : Int) :: .bool (decide ((j : Int) < (xs.length : Int))) :: .int .i64 (j : Int) :: .slice (some ad) xs.length c :: .int .i64 (j : Int) :: .pointer (some ((ad).add (j * 1))) :: .int .i64 x :: .slice (some ae) ys.length d :: .int .i64 (j : Int) :: .pointer (some ((ae).add (j * 1))) :: .int .i64 y :: .bool false :: .int .i64 ((j + 1 : Nat) : Int) :: [])) rfl ?_
          refine hJ18 (j + 1) _ _ ?_ ?_
          · show xs.length - (j + 1) < xs.length - j; omega
          · exact ⟨_, _, _, _, _, _, _, _, _, _, _, _, _, _, rfl, HS, ⟨by omega, take_eq hI.2 hx hy hxy⟩⟩
        · skip
          refine free_frame (n := 9) (T := _) [0, 0, 3, 7, 0, 0, 48, 112, 255] [(0, 16), (1, 17), (2, 18), (3, 19), (4, 20), (5, 21), (6, 22), (7, 23), (8, 24)] (fun bq_ vq_ w_ => qv ((fun i_ => match i_ with | 0 => some (.slice (some ad) xs.length c) | 1 => some (.int .i64 (j : Int)) | 2 => some (.pointer (some ((ad).add (j * 1)))) | 3 => some (.int .i64 x) | 4 => some (.slice (some ae) ys.length d) | 5 => some (.int .i64 (j : Int)) | 6 => some (.pointer (some ((ae).add (j * 1)))) | 7 => some (.int .i64 y) | 8 => some (.bool true) | _ => none) : Nat → Option Value) bq_ vq_ ∧ (St w (fun _ => False) w_ ([]))) (by kernel_rfl) rfl rfl (by kernel_rfl) (by kernel_rfl) rfl (by kernel_rfl) (by kernel_rfl) ⟨qv_none, HS.draw⟩ ?_ ?_
          · clear HS
            intro i_ hi_ bq_ vq_ a_ w_ hG hb_ hon hoff hfr hel hval
            obtain ⟨hV, hE⟩ := hG
            have hi_ := List.mem_range.1 hi_
            obtain ⟨l_, rfl⟩ := hfr
            have hv_ := fun (j t : Nat) (v : Value) (h1 : (j, t) ∈ [(0, 16), (1, 17), (2, 18), (3, 19), (4, 20), (5, 21), (6, 22), (7, 23), (8, 24)]) h2 h3 => (hval (j, t) h1 h3).trans (congrArg some (hV j v h2 h3))
            have hcs : i_ = 0 ∨ i_ = 1 ∨ i_ = 2 ∨ i_ = 3 ∨ i_ = 4 ∨ i_ = 5 ∨ i_ = 6 ∨ i_ = 7 ∨ i_ = 8 := by omega
            rcases hcs with rfl | rfl | rfl | rfl | rfl | rfl | rfl | rfl | rfl
            · have e0 : evl l_ (.tmp 0) = .slice (some ad) xs.length c := evl_of ((hel 0 (by decide)).trans rfl)
              exact ⟨_, rfl, fun K_ hK_ => q_op _ (x_move (.slice (some ad) xs.length c) rfl e0) (hK_ _ _ ⟨qv_up hV (fun _ h => Option.some.inj h), hE⟩)⟩
            · have e5 : evl l_ (.tmp 5) = .int .i64 (j : Int) := evl_of ((hel 5 (by decide)).trans rfl)
              exact ⟨_, rfl, fun K_ hK_ => q_op _ (x_move (.int .i64 (j : Int)) rfl e5) (hK_ _ _ ⟨qv_up hV (fun _ h => Option.some.inj h), hE⟩)⟩
            · have e16 : evl l_ (.tmp 16) = .slice (some ad) xs.length c := evl_of (hv_ 0 16 _ (by decide) rfl (hon 0 (by decide)))
              have e17 : evl l_ (.tmp 17) = .int .i64 (j : Int) := evl_of (hv_ 1 17 _ (by decide) rfl (hon 1 (by decide)))
              exact ⟨_, rfl, fun K_ hK_ => q_op _ (x_index (A := ad) (j := j * 1) (sz := 1) rfl e16 e17 Try.underlying52 (by kernel_rfl) (by omega) rfl) (hK_ _ _ ⟨qv_up hV (fun _ h => Option.some.inj h), hE⟩)⟩
            · have hE0 := hE
              have HS := hE0
              have e18 : evl l_ (.tmp 18) = .pointer (some ((ad).add (j * 1))) := evl_of (hv_ 2 18 _ (by decide) rfl (hon 2 (by decide)))
              exact ⟨_, rfl, fun K_ hK_ => q_op _ (x_load (.int .i64 x) rfl e18 (ii_cell (Kd.C_below hr HS.belowOf) hx) (by rfl)) (hK_ _ _ ⟨qv_up hV (fun _ h => Option.some.inj h), hE⟩)⟩
            · have e1 : evl l_ (.tmp 1) = .slice (some ae) ys.length d := evl_of ((hel 1 (by decide)).trans rfl)
              exact ⟨_, rfl, fun K_ hK_ => q_op _ (x_move (.slice (some ae) ys.length d) rfl e1) (hK_ _ _ ⟨qv_up hV (fun _ h => Option.some.inj h), hE⟩)⟩
            · have e5 : evl l_ (.tmp 5) = .int .i64 (j : Int) := evl_of ((hel 5 (by decide)).trans rfl)
              exact ⟨_, rfl, fun K_ hK_ => q_op _ (x_move (.int .i64 (j : Int)) rfl e5) (hK_ _ _ ⟨qv_up hV (fun _ h => Option.some.inj h), hE⟩)⟩
            · have e20 : evl l_ (.tmp 20) = .slice (some ae) ys.length d := evl_of (hv_ 4 20 _ (by decide) rfl (hon 4 (by decide)))
              have e21 : evl l_ (.tmp 21) = .int .i64 (j : Int) := evl_of (hv_ 5 21 _ (by decide) rfl (hon 5 (by decide)))
              exact ⟨_, rfl, fun K_ hK_ => q_op _ (x_index (A := ae) (j := j * 1) (sz := 1) rfl e20 e21 Try.underlying52 (by kernel_rfl) (by omega) rfl) (hK_ _ _ ⟨qv_up hV (fun _ h => Option.some.inj h), hE⟩)⟩
            · have hE0 := hE
              have HS := hE0
              have e22 : evl l_ (.tmp 22) = .pointer (some ((ae).add (j * 1))) := evl_of (hv_ 6 22 _ (by decide) rfl (hon 6 (by decide)))
              exact ⟨_, rfl, fun K_ hK_ => q_op _ (x_load (.int .i64 y) rfl e22 (ii_cell (Kd.C_below hr2 HS.belowOf) hy) (by rfl)) (hK_ _ _ ⟨qv_up hV (fun _ h => Option.some.inj h), hE⟩)⟩
            · have e19 : evl l_ (.tmp 19) = .int .i64 x := evl_of (hv_ 3 19 _ (by decide) rfl (hon 3 (by decide)))
              have e23 : evl l_ (.tmp 23) = .int .i64 y := evl_of (hv_ 7 23 _ (by decide) rfl (hon 7 (by decide)))
              exact ⟨_, rfl, fun K_ hK_ => q_op _ (x_cmp (k := .i64) (m := x) (n := y) .neq true rfl e19 e23 (neqI hxy) rfl) (hK_ _ _ ⟨qv_up hV (fun _ h => Option.some.inj h), hE⟩)⟩
          intro bq_ vq_ w_ hall hG
          obtain ⟨hV, hE⟩ := hG
          clear HS
          have HS := hE
          have hv0 := hV 0 _ rfl (hall 0 (by decide))
          have hv1 := hV 1 _ rfl (hall 1 (by decide))
          have hv2 := hV 2 _ rfl (hall 2 (by decide))
          have hv3 := hV 3 _ rfl (hall 3 (by decide))
          have hv4 := hV 4 _ rfl (hall 4 (by decide))
          have hv5 := hV 5 _ rfl (hall 5 (by decide))
          have hv6 := hV 6 _ rfl (hall 6 (by decide))
          have hv7 := hV 7 _ rfl (hall 7 (by decide))
          have hv8 := hV 8 _ rfl (hall 8 (by decide))
          clear hV hall
          rw [putSel_fr]
          simp only [tells, List.map_cons, List.map_nil, setAll, List.set_cons_succ, List.set_cons_zero, hv0, hv1, hv2, hv3, hv4, hv5, hv6, hv7, hv8]
          clear hv0 hv1 hv2 hv3 hv4 hv5 hv6 hv7 hv8
          generalize w_ = w900701 at HS ⊢
          refine fr_at (l' := (.slice (some ad) xs.length c :: .slice (some ae) ys.length d :: undef :: undef :: u4 :: .int .i64 (j : Int) :: .slice (some ad) xs.length c :: .int .i64 (xs.length : Int) :: .slice (some ae) ys.length d :: .int .i64 (ys.length : Int) :: .bool false :: .slice (some ad) xs.length c :: .int .i64 (xs.length : Int) :: .int .i64 (j : Int) :: .bool (decide ((j : Int) < (xs.length : Int))) :: .int .i64 (j : Int) :: .slice (some ad) xs.length c :: .int .i64 (j : Int) :: .pointer (some ((ad).add (j * 1))) :: .int .i64 x :: .slice (some ae) ys.length d :: .int .i64 (j : Int) :: .pointer (some ((ae).add (j * 1))) :: .int .i64 y :: .bool true :: u25 :: [])) rfl ?_
          refine hK34 _ _ ?_
          refine c_true rfl ?_
          refine wp_seq_k (fun K900702 hK900703 => ?_)
          refine c_region (fun ops900705 hops900704 => ?_)
          clear hops900704
          refine p_run _ (x_assign (.bool false) rfl rfl) rfl ?_
          refine wpList_nil ?_
          refine hK900703 _ _ ?_
          refine wp_ret ?_
          try simp only [Exit.inBlock, Exit.then]
          refine c_ret (.bool false) (r_tmp rfl rfl) ?_
          have hne : decide (xs = ys) = false := decide_eq_false (fun h => hxy (by rw [h, hy] at hx; exact (Option.some.inj hx).symm))
          rw [hne]
          exact ⟨rfl, HS.belowOf⟩
      · have hlt : j = xs.length := by have := of_decide_eq_false hc26; omega
        subst hlt
        refine wp_exit ?_
        refine hK12 _ _ ?_
        refine wp_seq_k (fun K900706 hK900707 => ?_)
        refine c_region (fun ops900709 hops900708 => ?_)
        clear hops900708
        refine p_run _ (x_assign (.bool true) rfl rfl) rfl ?_
        refine wpList_nil ?_
        refine hK900707 _ _ ?_
        refine wp_ret ?_
        try simp only [Exit.inBlock, Exit.then]
        refine c_ret (.bool true) (r_tmp rfl rfl) ?_
        have hne : decide (xs = ys) = true := decide_eq_true (by have h := hI.2; rw [List.take_length, hln, List.take_length] at h; exact h)
        rw [hne]
        exact ⟨rfl, HS.belowOf⟩
  · skip
    refine c_enter Try.func19 rfl 26 rfl (.slice A xs.length c :: .slice B ys.length d :: U16k4 (U8k4 ([]))) rfl ?_
    refine wp_seq_k (fun K1 hK2 => ?_)
    refine c_region (fun ops4 hops3 => ?_)
    clear hops3
    refine p_run _ (x_assign (.bool false) rfl rfl) rfl ?_
    refine wpList_nil ?_
    refine hK2 _ _ ?_
    refine wp_seq_k (fun K5 hK6 => ?_)
    refine wp_seq_k (fun K7 hK8 => ?_)
    refine c_region (fun ops10 hops9 => ?_)
    clear hops9
    refine p_run _ (x_move (.slice A xs.length c) rfl rfl) rfl ?_
    refine p_run _ (x_len rfl rfl Try.underlying52) rfl ?_
    refine p_run _ (x_move (.slice B ys.length d) rfl rfl) rfl ?_
    refine p_run _ (x_len rfl rfl Try.underlying52) rfl ?_
    refine p_run _ (x_cmp (k := .i64) (m := (xs.length : Int)) (n := (ys.length : Int)) .neq true rfl rfl rfl (neqI (by omega)) rfl) rfl ?_
    refine wpList_nil ?_
    refine fr_at (l' := (.slice A xs.length c :: .slice B ys.length d :: undef :: undef :: .bool false :: undef :: .slice A xs.length c :: .int .i64 (xs.length : Int) :: .slice B ys.length d :: .int .i64 (ys.length : Int) :: .bool true :: U8k4 (U4k4 (undef :: undef :: undef :: [])))) rfl ?_
    refine hK8 _ _ ?_
    refine c_true rfl ?_
    refine wp_seq_k (fun K11 hK12 => ?_)
    refine c_region (fun ops14 hops13 => ?_)
    clear hops13
    refine p_run _ (x_assign (.bool false) rfl rfl) rfl ?_
    refine wpList_nil ?_
    refine hK12 _ _ ?_
    refine wp_ret ?_
    try simp only [Exit.inBlock, Exit.then]
    refine c_ret (.bool false) (r_tmp rfl rfl) ?_
    have hne : decide (xs = ys) = false := decide_eq_false (fun h => hln (by rw [h]))
    rw [hne]
    exact ⟨rfl, HS.belowOf⟩
end Go.Proofs.Ytkiiangookibnaa
