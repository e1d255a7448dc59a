/- The document's leaf: Right. -/
import Derived.Test.YtiokdpnhaemciaaLeaf3
import Derived.Test.YtiokdpnhaemciaaRbyM
set_option linter.unusedVariables false
set_option linter.unusedSimpArgs false
namespace Go.Proofs.Ytiokdpnhaemciaa
open Go.RowKit Go.Proofs.YtiokdpnhaemciaaW.PrintWords Go.Proofs.YtiokdpnhaemciaaW.PrintLast Crc
abbrev U4a8 (l : List Value) : List Value := undef :: undef :: undef :: undef :: l
abbrev U8a8 (l : List Value) : List Value := U4a8 (U4a8 l)
abbrev U16a8 (l : List Value) : List Value := U8a8 (U8a8 l)
abbrev U32a8 (l : List Value) : List Value := U16a8 (U16a8 l)
abbrev U64a8 (l : List Value) : List Value := U32a8 (U32a8 l)
abbrev nv8 (k : Int) (b : List Value) (A : Option Addr) (n c : Nat) : Value := .agg (Value.int .i64 k :: (b ++ [Value.slice A n c])).toArray
/-- The last key so far. -/
def lastK (es : List (Int × Int)) (j : Nat) : Int := if j = 0 then -1 else (es.getD (j - 1) (0, 0)).1
theorem lastK_succ {es : List (Int × Int)} {j : Nat} {x : Int × Int} (hx : es[j]? = some x) : lastK es (j + 1) = x.1 := by
  unfold lastK
  rw [if_neg (by omega), Nat.add_sub_cancel, List.getD_eq_getElem?_getD, hx]
  rfl
theorem en_iff {es : List (Int × Int)} {j : Nat} {x : Int × Int} (hx : es[j]? = some x) : enB es j = true ↔ (0 ≤ x.1 ∧ x.1 < 64 ∧ 0 ≤ x.2 ∧ x.2 < 240 ∧ lastK es j < x.1) := by
  have e : enB es j = (decide (0 ≤ x.1) && decide (x.1 < 64) && decide (0 ≤ x.2) && decide (x.2 < 240) && (j == 0 || decide ((es.getD (j - 1) (0, 0)).1 < x.1))) := by unfold enB; rw [hx]
  rw [e]
  unfold lastK
  generalize (es.getD (j - 1) (0, 0)).1 = y
  simp only [Bool.and_eq_true, Bool.or_eq_true, decide_eq_true_eq, beq_iff_eq]
  by_cases hj : j = 0
  · rw [if_pos hj]
    constructor
    · rintro ⟨⟨⟨⟨h1, h2⟩, h3⟩, h4⟩, -⟩
      exact ⟨h1, h2, h3, h4, by omega⟩
    · rintro ⟨h1, h2, h3, h4, -⟩
      exact ⟨⟨⟨⟨h1, h2⟩, h3⟩, h4⟩, .inl hj⟩
  · rw [if_neg hj]
    constructor
    · rintro ⟨⟨⟨⟨h1, h2⟩, h3⟩, h4⟩, h5⟩
      exact ⟨h1, h2, h3, h4, h5.resolve_left hj⟩
    · rintro ⟨h1, h2, h3, h4, h5⟩
      exact ⟨⟨⟨⟨h1, h2⟩, h3⟩, h4⟩, .inr h5⟩

theorem lastK_ge {es : List (Int × Int)} {j : Nat} (h : riseK es j = true) (hj : j ≤ es.length) : 0 < j → 0 ≤ lastK es j := by
  intro h0
  obtain ⟨i, rfl⟩ : ∃ i, j = i + 1 := ⟨j - 1, by omega⟩
  obtain ⟨x, hx⟩ : ∃ x, es[i]? = some x := ⟨_, List.getElem?_eq_getElem (by omega)⟩
  rw [lastK_succ hx]
  rw [riseK_snoc] at h
  simp only [Bool.and_eq_true] at h
  have h2 := h.2
  unfold enB at h2
  rw [hx] at h2
  simp only [Bool.and_eq_true, decide_eq_true_eq] at h2
  exact h2.1.1.1.1
theorem rr_in {es : List (Int × Int)} {j : Nat} {x : Int × Int} (hx : es[j]? = some x) (h : riseK es j = true) :
    (enB es j = false ∧ x.1 ≤ lastK es j) ∨ (enB es j = false ∧ ¬ x.1 ≤ lastK es j ∧ 63 < x.1) ∨ (enB es j = false ∧ ¬ x.1 ≤ lastK es j ∧ ¬ 63 < x.1 ∧ x.2 < 0) ∨ (enB es j = false ∧ ¬ x.1 ≤ lastK es j ∧ ¬ 63 < x.1 ∧ ¬ x.2 < 0 ∧ 239 < x.2) ∨
      (enB es j = true ∧ ¬ x.1 ≤ lastK es j ∧ ¬ 63 < x.1 ∧ ¬ x.2 < 0 ∧ ¬ 239 < x.2) := by
  have hg := lastK_ge h (Nat.le_of_lt (List.getElem?_eq_some_iff.1 hx).1)
  have hi := en_iff hx
  have hz : j = 0 → lastK es j = -1 := fun h => by unfold lastK; rw [if_pos h]
  by_cases h1 : x.1 ≤ lastK es j
  · exact .inl ⟨Bool.eq_false_iff.2 (fun h => by have := hi.1 h; omega), h1⟩
  by_cases h2 : 63 < x.1
  · exact .inr (.inl ⟨Bool.eq_false_iff.2 (fun h => by have := hi.1 h; omega), h1, h2⟩)
  by_cases h3 : x.2 < 0
  · exact .inr (.inr (.inl ⟨Bool.eq_false_iff.2 (fun h => by have := hi.1 h; omega), h1, h2, h3⟩))
  by_cases h4 : 239 < x.2
  · exact .inr (.inr (.inr (.inl ⟨Bool.eq_false_iff.2 (fun h => by have := hi.1 h; omega), h1, h2, h3, h4⟩)))
  · refine .inr (.inr (.inr (.inr ⟨hi.2 ⟨?_, by omega, by omega, by omega, by omega⟩, h1, h2, h3, h4⟩)))
    rcases Nat.eq_zero_or_pos j with h0 | h0
    · have := hz h0
      omega
    · have := hg h0
      omega
theorem neq_yes' {a b : Int} (h : a = b) : cmpB .neq a b = false := by subst h; simp [cmpB]
theorem neq_no' {a b : Int} (h : ¬ a = b) : cmpB .neq a b = true := by simp [cmpB, h]

set_option maxRecDepth 10000 in
set_option maxHeartbeats 40000000 in
theorem rright_node (w : World) (k : Int) (b : List UInt8) (hb : b.length = 16) (A : Option Addr) (c : Nat) (es : List (Int × Int)) (hr : kEn.C w A es.length es) (hl : es.length ≤ 1000) : Calls Try.prog 59 #[nv8 k (nums .u8 (b.map bv)) A es.length c] w fun e w' => e = .returned (.bool (ndOk k b es)) ∧ Below w.heap.size w w' := by
  have HS := St.empty w
  by_cases hk : k = 1
  · skip
    refine c_enter Try.func59 rfl 68 rfl (nv8 k (nums .u8 (b.map bv)) A es.length c :: U64a8 (undef :: undef :: undef :: [])) rfl ?_
    refine wp_seq_k (fun K1 hK2 => ?_)
    refine c_region (fun ops4 hops3 => ?_)
    clear hops3
    refine St.wBox HS (cs := (Value.int .i64 k :: ((nums .u8 (b.map bv)) ++ ([Value.slice A es.length c])))) (nv8 k (nums .u8 (b.map bv)) A es.length c) rfl rfl ?_
    clear HS
    intro g5 w6 hg7 HS
    refine p_run _ (x_assign (.bool false) rfl rfl) rfl ?_
    refine wpList_nil ?_
    refine hK2 _ _ ?_
    refine wp_seq_k (fun K8 hK9 => ?_)
    refine wp_seq_k (fun K10 hK11 => ?_)
    refine c_region (fun ops13 hops12 => ?_)
    clear hops12
    refine p_run _ (x_field (j := 0) _ _ rfl rfl Try.underlying52 rfl (by rfl) rfl) rfl ?_
    refine p_run _ (x_load (.int .i64 k) rfl rfl (bkCell (HS.get (.head _)) 0 _ rfl) (by rfl)) rfl ?_
    refine p_run _ (x_cmp (k := .i64) (m := k) (n := 1) .eql true rfl rfl rfl (cmp_yes hk) rfl) rfl ?_
    refine wpList_nil ?_
    refine hK11 _ _ ?_
    refine c_true rfl ?_
    refine wp_seq_k (fun K14 hK15 => ?_)
    refine c_region (fun ops17 hops16 => ?_)
    clear hops16
    refine p_run _ (x_field (j := 17) _ _ rfl rfl Try.underlying52 rfl (by rfl) rfl) rfl ?_
    refine p_run _ (x_load (.slice A es.length c) rfl rfl (bkCell (HS.get (.head _)) 17 _ (by simp [List.getElem?_append, List.length_map, hb, nums_length])) (by rfl)) rfl ?_
    refine p_run _ (x_len rfl rfl Try.underlying50) rfl ?_
    refine p_run _ (x_cmp (k := .i64) (m := (es.length : Int)) (n := 0) .eql (decide (es.length = 0)) rfl rfl rfl (len_zero _) rfl) rfl ?_
    refine p_run (l' := (nv8 k (nums .u8 (b.map bv)) A es.length c :: .pointer (some ⟨g5, 0, none⟩) :: .bool (decide (es.length = 0)) :: undef :: undef :: undef :: .pointer (some ⟨g5, 0, none⟩) :: .int .i64 k :: .bool true :: .pointer (some ⟨g5, 17, none⟩) :: .slice A es.length c :: .int .i64 (es.length : Int) :: .bool (decide (es.length = 0)) :: U32a8 (U16a8 (U4a8 (undef :: undef :: undef :: []))))) _ (x_assign (.bool (decide (es.length = 0))) rfl rfl) rfl ?_
    refine wpList_nil ?_
    refine hK15 _ _ ?_
    refine wp_ret ?_
    try simp only [Exit.inBlock, Exit.then]
    refine c_ret (.bool (decide (es.length = 0))) (r_tmp rfl rfl) ?_
    have e1 : ndOk k b es = decide (es.length = 0) := by unfold ndOk; rw [if_pos hk]
    rw [e1]
    exact ⟨rfl, HS.belowOf⟩
  · skip
    have hk1 := hk
    clear hk
    by_cases hk : k = 2
    skip
    · skip
      by_cases hz : b = zK
      · skip
        rcases (by omega : es.length < 1 ∨ 6 < es.length ∨ (1 ≤ es.length ∧ es.length ≤ 6)) with hn | hn | hn
        · skip
          refine c_enter Try.func59 rfl 68 rfl (nv8 k (nums .u8 (b.map bv)) A es.length c :: U64a8 (undef :: undef :: undef :: [])) rfl ?_
          refine wp_seq_k (fun K1 hK2 => ?_)
          refine c_region (fun ops4 hops3 => ?_)
          clear hops3
          refine St.wBox HS (cs := (Value.int .i64 k :: ((nums .u8 (b.map bv)) ++ ([Value.slice A es.length c])))) (nv8 k (nums .u8 (b.map bv)) A es.length c) rfl rfl ?_
          clear HS
          intro g5 w6 hg7 HS
          refine p_run _ (x_assign (.bool false) rfl rfl) rfl ?_
          refine wpList_nil ?_
          refine hK2 _ _ ?_
          refine wp_seq_k (fun K8 hK9 => ?_)
          refine wp_seq_k (fun K10 hK11 => ?_)
          refine c_region (fun ops13 hops12 => ?_)
          clear hops12
          refine p_run _ (x_field (j := 0) _ _ rfl rfl Try.underlying52 rfl (by rfl) rfl) rfl ?_
          refine p_run _ (x_load (.int .i64 k) rfl rfl (bkCell (HS.get (.head _)) 0 _ rfl) (by rfl)) rfl ?_
          refine p_run _ (x_cmp (k := .i64) (m := k) (n := 1) .eql false rfl rfl rfl (cmp_not hk1) rfl) rfl ?_
          refine wpList_nil ?_
          refine hK11 _ _ ?_
          refine c_false rfl ?_
          refine wp_skip ?_
          refine hK9 _ _ ?_
          refine wp_seq_k (fun K14 hK15 => ?_)
          refine wp_seq_k (fun K16 hK17 => ?_)
          refine c_region (fun ops19 hops18 => ?_)
          refine p_run _ (x_field (j := 0) _ _ rfl rfl Try.underlying52 rfl (by rfl) rfl) rfl ?_
          refine p_run _ (x_load (.int .i64 k) rfl rfl (bkCell (HS.get (.head _)) 0 _ rfl) (by rfl)) rfl ?_
          refine p_run _ (x_cmp (k := .i64) (m := k) (n := 2) .neq false rfl rfl rfl (neq_yes' hk) rfl) rfl ?_
          refine p_run _ (x_move (.bool false) rfl rfl) rfl ?_
          refine p_off (l' := (nv8 k (nums .u8 (b.map bv)) A es.length c :: .pointer (some ⟨g5, 0, none⟩) :: .bool false :: undef :: undef :: undef :: .pointer (some ⟨g5, 0, none⟩) :: .int .i64 k :: .bool false :: U4a8 (.pointer (some ⟨g5, 0, none⟩) :: .int .i64 k :: .bool false :: .bool false :: U32a8 (U16a8 (undef :: undef :: undef :: []))))) (by rw [hops18]; rfl) rfl ?_
          refine p_off (by rw [hops18]; rfl) rfl ?_
          refine p_off (by rw [hops18]; rfl) rfl ?_
          refine p_run _ (x_pick false (undef) (.bool false) (.bool false) rfl rfl rfl rfl rfl) rfl ?_
          refine p_run _ (x_move (.bool false) rfl rfl) rfl ?_
          refine p_on rfl (by rw [hops18]; rfl) ?_
          refine p_run _ (x_field (j := 1) _ _ rfl rfl Try.underlying52 rfl (by rfl) rfl) rfl ?_
          refine p_on rfl (by rw [hops18]; rfl) ?_
          refine p_run _ (x_loads ((nums .u8 (b.map bv))) 16 rfl rfl (bkCells (HS.get (.head _)) 1 _ (by simp)) (by rfl) (by kernel_rfl) (by simp [List.length_map, hb, nums_length])) rfl ?_
          refine p_on rfl (by rw [hops18]; rfl) ?_
          refine p_run _ (x_build ((nums .u8 (zK.map bv))) rfl (by kernel_rfl)) rfl ?_
          refine p_on rfl (by rw [hops18]; rfl) ?_
          refine p_run _ (x_eq .neq (.agg ((nums .u8 (b.map bv))).toArray) (.agg ((nums .u8 (zK.map bv))).toArray) (decide ((b.map bv) = (zK.map bv))) false rfl rfl rfl (equal_nums Try.underlying49 Try.underlying5 (by kernel_rfl) (by kernel_rfl) _ _ (by simp [List.length_map, hb]) (by simp [List.length_map, zK_len])) (by rw [eq_map, decide_eq_true hz]; rfl) rfl (guard_agg (by kernel_rfl)) (guard_agg (by kernel_rfl))) rfl ?_
          refine p_run _ (x_pick false (.bool true) (.bool false) (.bool false) rfl rfl rfl rfl rfl) rfl ?_
          refine p_run (l' := (nv8 k (nums .u8 (b.map bv)) A es.length c :: .pointer (some ⟨g5, 0, none⟩) :: .bool false :: undef :: undef :: undef :: .pointer (some ⟨g5, 0, none⟩) :: .int .i64 k :: .bool false :: U4a8 (.pointer (some ⟨g5, 0, none⟩) :: .int .i64 k :: .bool false :: .bool false :: undef :: undef :: undef :: .bool false :: .bool false :: .pointer (some ⟨g5, 1, none⟩) :: .agg ((nums .u8 (b.map bv))).toArray :: .agg ((nums .u8 (zK.map bv))).toArray :: .bool false :: .bool false :: .bool false :: U32a8 (U8a8 ([]))))) _ (x_move (.bool false) rfl rfl) rfl ?_
          refine p_on rfl (by rw [hops18]; rfl) ?_
          refine p_run _ (x_field (j := 17) _ _ rfl rfl Try.underlying52 rfl (by rfl) rfl) rfl ?_
          refine p_on rfl (by rw [hops18]; rfl) ?_
          refine p_run _ (x_load (.slice A es.length c) rfl rfl (bkCell (HS.get (.head _)) 17 _ (by simp [List.getElem?_append, List.length_map, hb, nums_length])) (by rfl)) rfl ?_
          refine p_on rfl (by rw [hops18]; rfl) ?_
          refine p_run _ (x_len rfl rfl Try.underlying50) rfl ?_
          refine p_on rfl (by rw [hops18]; rfl) ?_
          refine p_run _ (x_cmp (k := .i64) (m := (es.length : Int)) (n := 1) .lss true rfl rfl rfl (show decide ((es.length : Int) < 1) = true from decide_eq_true (by omega)) rfl) rfl ?_
          refine p_run _ (x_pick false (.bool true) (.bool true) (.bool true) rfl rfl rfl rfl rfl) rfl ?_
          refine p_run _ (x_move (.bool true) rfl rfl) rfl ?_
          refine p_off (by rw [hops18]; rfl) rfl ?_
          refine p_off (by rw [hops18]; rfl) rfl ?_
          refine p_off (by rw [hops18]; rfl) rfl ?_
          refine p_off (l' := (nv8 k (nums .u8 (b.map bv)) A es.length c :: .pointer (some ⟨g5, 0, none⟩) :: .bool false :: undef :: undef :: undef :: .pointer (some ⟨g5, 0, none⟩) :: .int .i64 k :: .bool false :: U4a8 (.pointer (some ⟨g5, 0, none⟩) :: .int .i64 k :: .bool false :: .bool false :: undef :: undef :: undef :: .bool false :: .bool false :: .pointer (some ⟨g5, 1, none⟩) :: .agg ((nums .u8 (b.map bv))).toArray :: .agg ((nums .u8 (zK.map bv))).toArray :: .bool false :: .bool false :: .bool false :: .pointer (some ⟨g5, 17, none⟩) :: .slice A es.length c :: .int .i64 (es.length : Int) :: .bool true :: .bool true :: .bool true :: U32a8 (undef :: undef :: [])))) (by rw [hops18]; rfl) rfl ?_
          refine p_run _ (x_pick true (.bool true) (undef) (.bool true) rfl rfl rfl rfl rfl) rfl ?_
          clear hops18
          refine wpList_nil ?_
          refine hK17 _ _ ?_
          refine c_true rfl ?_
          refine wp_seq_k (fun K20 hK21 => ?_)
          refine c_region (fun ops23 hops22 => ?_)
          clear hops22
          refine p_run _ (x_assign (.bool false) rfl rfl) rfl ?_
          refine wpList_nil ?_
          refine hK21 _ _ ?_
          refine wp_ret ?_
          try simp only [Exit.inBlock, Exit.then]
          refine c_ret (.bool false) (r_tmp rfl rfl) ?_
          have e0 : riseB es = false := by unfold riseB; simp; omega
          have e1 : ndOk k b es = false := by unfold ndOk; rw [if_neg hk1, if_pos (.inl hk)]; rw [e0]; simp
          rw [e1]
          exact ⟨rfl, HS.belowOf⟩
        · skip
          refine c_enter Try.func59 rfl 68 rfl (nv8 k (nums .u8 (b.map bv)) A es.length c :: U64a8 (undef :: undef :: undef :: [])) rfl ?_
          refine wp_seq_k (fun K1 hK2 => ?_)
          refine c_region (fun ops4 hops3 => ?_)
          clear hops3
          refine St.wBox HS (cs := (Value.int .i64 k :: ((nums .u8 (b.map bv)) ++ ([Value.slice A es.length c])))) (nv8 k (nums .u8 (b.map bv)) A es.length c) rfl rfl ?_
          clear HS
          intro g5 w6 hg7 HS
          refine p_run _ (x_assign (.bool false) rfl rfl) rfl ?_
          refine wpList_nil ?_
          refine hK2 _ _ ?_
          refine wp_seq_k (fun K8 hK9 => ?_)
          refine wp_seq_k (fun K10 hK11 => ?_)
          refine c_region (fun ops13 hops12 => ?_)
          clear hops12
          refine p_run _ (x_field (j := 0) _ _ rfl rfl Try.underlying52 rfl (by rfl) rfl) rfl ?_
          refine p_run _ (x_load (.int .i64 k) rfl rfl (bkCell (HS.get (.head _)) 0 _ rfl) (by rfl)) rfl ?_
          refine p_run _ (x_cmp (k := .i64) (m := k) (n := 1) .eql false rfl rfl rfl (cmp_not hk1) rfl) rfl ?_
          refine wpList_nil ?_
          refine hK11 _ _ ?_
          refine c_false rfl ?_
          refine wp_skip ?_
          refine hK9 _ _ ?_
          refine wp_seq_k (fun K14 hK15 => ?_)
          refine wp_seq_k (fun K16 hK17 => ?_)
          refine c_region (fun ops19 hops18 => ?_)
          refine p_run _ (x_field (j := 0) _ _ rfl rfl Try.underlying52 rfl (by rfl) rfl) rfl ?_
          refine p_run _ (x_load (.int .i64 k) rfl rfl (bkCell (HS.get (.head _)) 0 _ rfl) (by rfl)) rfl ?_
          refine p_run _ (x_cmp (k := .i64) (m := k) (n := 2) .neq false rfl rfl rfl (neq_yes' hk) rfl) rfl ?_
          refine p_run _ (x_move (.bool false) rfl rfl) rfl ?_
          refine p_off (l' := (nv8 k (nums .u8 (b.map bv)) A es.length c :: .pointer (some ⟨g5, 0, none⟩) :: .bool false :: undef :: undef :: undef :: .pointer (some ⟨g5, 0, none⟩) :: .int .i64 k :: .bool false :: U4a8 (.pointer (some ⟨g5, 0, none⟩) :: .int .i64 k :: .bool false :: .bool false :: U32a8 (U16a8 (undef :: undef :: undef :: []))))) (by rw [hops18]; rfl) rfl ?_
          refine p_off (by rw [hops18]; rfl) rfl ?_
          refine p_off (by rw [hops18]; rfl) rfl ?_
          refine p_run _ (x_pick false (undef) (.bool false) (.bool false) rfl rfl rfl rfl rfl) rfl ?_
          refine p_run _ (x_move (.bool false) rfl rfl) rfl ?_
          refine p_on rfl (by rw [hops18]; rfl) ?_
          refine p_run _ (x_field (j := 1) _ _ rfl rfl Try.underlying52 rfl (by rfl) rfl) rfl ?_
          refine p_on rfl (by rw [hops18]; rfl) ?_
          refine p_run _ (x_loads ((nums .u8 (b.map bv))) 16 rfl rfl (bkCells (HS.get (.head _)) 1 _ (by simp)) (by rfl) (by kernel_rfl) (by simp [List.length_map, hb, nums_length])) rfl ?_
          refine p_on rfl (by rw [hops18]; rfl) ?_
          refine p_run _ (x_build ((nums .u8 (zK.map bv))) rfl (by kernel_rfl)) rfl ?_
          refine p_on rfl (by rw [hops18]; rfl) ?_
          refine p_run _ (x_eq .neq (.agg ((nums .u8 (b.map bv))).toArray) (.agg ((nums .u8 (zK.map bv))).toArray) (decide ((b.map bv) = (zK.map bv))) false rfl rfl rfl (equal_nums Try.underlying49 Try.underlying5 (by kernel_rfl) (by kernel_rfl) _ _ (by simp [List.length_map, hb]) (by simp [List.length_map, zK_len])) (by rw [eq_map, decide_eq_true hz]; rfl) rfl (guard_agg (by kernel_rfl)) (guard_agg (by kernel_rfl))) rfl ?_
          refine p_run _ (x_pick false (.bool true) (.bool false) (.bool false) rfl rfl rfl rfl rfl) rfl ?_
          refine p_run (l' := (nv8 k (nums .u8 (b.map bv)) A es.length c :: .pointer (some ⟨g5, 0, none⟩) :: .bool false :: undef :: undef :: undef :: .pointer (some ⟨g5, 0, none⟩) :: .int .i64 k :: .bool false :: U4a8 (.pointer (some ⟨g5, 0, none⟩) :: .int .i64 k :: .bool false :: .bool false :: undef :: undef :: undef :: .bool false :: .bool false :: .pointer (some ⟨g5, 1, none⟩) :: .agg ((nums .u8 (b.map bv))).toArray :: .agg ((nums .u8 (zK.map bv))).toArray :: .bool false :: .bool false :: .bool false :: U32a8 (U8a8 ([]))))) _ (x_move (.bool false) rfl rfl) rfl ?_
          refine p_on rfl (by rw [hops18]; rfl) ?_
          refine p_run _ (x_field (j := 17) _ _ rfl rfl Try.underlying52 rfl (by rfl) rfl) rfl ?_
          refine p_on rfl (by rw [hops18]; rfl) ?_
          refine p_run _ (x_load (.slice A es.length c) rfl rfl (bkCell (HS.get (.head _)) 17 _ (by simp [List.getElem?_append, List.length_map, hb, nums_length])) (by rfl)) rfl ?_
          refine p_on rfl (by rw [hops18]; rfl) ?_
          refine p_run _ (x_len rfl rfl Try.underlying50) rfl ?_
          refine p_on rfl (by rw [hops18]; rfl) ?_
          refine p_run _ (x_cmp (k := .i64) (m := (es.length : Int)) (n := 1) .lss false rfl rfl rfl (show decide ((es.length : Int) < 1) = false from decide_eq_false (by omega)) rfl) rfl ?_
          refine p_run _ (x_pick false (.bool true) (.bool false) (.bool false) rfl rfl rfl rfl rfl) rfl ?_
          refine p_run _ (x_move (.bool false) rfl rfl) rfl ?_
          refine p_on rfl (by rw [hops18]; rfl) ?_
          refine p_run _ (x_field (j := 17) _ _ rfl rfl Try.underlying52 rfl (by rfl) rfl) rfl ?_
          refine p_on rfl (by rw [hops18]; rfl) ?_
          refine p_run _ (x_load (.slice A es.length c) rfl rfl (bkCell (HS.get (.head _)) 17 _ (by simp [List.getElem?_append, List.length_map, hb, nums_length])) (by rfl)) rfl ?_
          refine p_on rfl (by rw [hops18]; rfl) ?_
          refine p_run _ (x_len rfl rfl Try.underlying50) rfl ?_
          refine p_on rfl (by rw [hops18]; rfl) ?_
          refine p_run (l' := (nv8 k (nums .u8 (b.map bv)) A es.length c :: .pointer (some ⟨g5, 0, none⟩) :: .bool false :: undef :: undef :: undef :: .pointer (some ⟨g5, 0, none⟩) :: .int .i64 k :: .bool false :: U4a8 (.pointer (some ⟨g5, 0, none⟩) :: .int .i64 k :: .bool false :: .bool false :: undef :: undef :: undef :: .bool false :: .bool false :: .pointer (some ⟨g5, 1, none⟩) :: .agg ((nums .u8 (b.map bv))).toArray :: .agg ((nums .u8 (zK.map bv))).toArray :: .bool false :: .bool false :: .bool false :: .pointer (some ⟨g5, 17, none⟩) :: .slice A es.length c :: .int .i64 (es.length : Int) :: .bool false :: .bool false :: .bool false :: .pointer (some ⟨g5, 17, none⟩) :: .slice A es.length c :: .int .i64 (es.length : Int) :: .bool true :: U16a8 (U8a8 (U4a8 (undef :: undef :: [])))))) _ (x_cmp (k := .i64) (m := (es.length : Int)) (n := 6) .gtr true rfl rfl rfl (show decide ((es.length : Int) > 6) = true from decide_eq_true (by omega)) rfl) rfl ?_
          refine p_run _ (x_pick false (.bool true) (.bool true) (.bool true) rfl rfl rfl rfl rfl) rfl ?_
          clear hops18
          refine wpList_nil ?_
          refine hK17 _ _ ?_
          refine c_true rfl ?_
          refine wp_seq_k (fun K20 hK21 => ?_)
          refine c_region (fun ops23 hops22 => ?_)
          clear hops22
          refine p_run _ (x_assign (.bool false) rfl rfl) rfl ?_
          refine wpList_nil ?_
          refine hK21 _ _ ?_
          refine wp_ret ?_
          try simp only [Exit.inBlock, Exit.then]
          refine c_ret (.bool false) (r_tmp rfl rfl) ?_
          have e1 : ndOk k b es = false := by unfold ndOk; rw [if_neg hk1, if_pos (.inl hk)]; rw [decide_eq_false (by omega : ¬ es.length ≤ 6)]; simp
          rw [e1]
          exact ⟨rfl, HS.belowOf⟩
        · skip
          refine c_enter Try.func59 rfl 68 rfl (nv8 k (nums .u8 (b.map bv)) A es.length c :: U64a8 (undef :: undef :: undef :: [])) rfl ?_
          refine wp_seq_k (fun K1 hK2 => ?_)
          refine c_region (fun ops4 hops3 => ?_)
          clear hops3
          refine St.wBox HS (cs := (Value.int .i64 k :: ((nums .u8 (b.map bv)) ++ ([Value.slice A es.length c])))) (nv8 k (nums .u8 (b.map bv)) A es.length c) rfl rfl ?_
          clear HS
          intro g5 w6 hg7 HS
          refine p_run _ (x_assign (.bool false) rfl rfl) rfl ?_
          refine wpList_nil ?_
          refine hK2 _ _ ?_
          refine wp_seq_k (fun K8 hK9 => ?_)
          refine wp_seq_k (fun K10 hK11 => ?_)
          refine c_region (fun ops13 hops12 => ?_)
          clear hops12
          refine p_run _ (x_field (j := 0) _ _ rfl rfl Try.underlying52 rfl (by rfl) rfl) rfl ?_
          refine p_run _ (x_load (.int .i64 k) rfl rfl (bkCell (HS.get (.head _)) 0 _ rfl) (by rfl)) rfl ?_
          refine p_run _ (x_cmp (k := .i64) (m := k) (n := 1) .eql false rfl rfl rfl (cmp_not hk1) rfl) rfl ?_
          refine wpList_nil ?_
          refine hK11 _ _ ?_
          refine c_false rfl ?_
          refine wp_skip ?_
          refine hK9 _ _ ?_
          refine wp_seq_k (fun K14 hK15 => ?_)
          refine wp_seq_k (fun K16 hK17 => ?_)
          refine c_region (fun ops19 hops18 => ?_)
          refine p_run _ (x_field (j := 0) _ _ rfl rfl Try.underlying52 rfl (by rfl) rfl) rfl ?_
          refine p_run _ (x_load (.int .i64 k) rfl rfl (bkCell (HS.get (.head _)) 0 _ rfl) (by rfl)) rfl ?_
          refine p_run _ (x_cmp (k := .i64) (m := k) (n := 2) .neq false rfl rfl rfl (neq_yes' hk) rfl) rfl ?_
          refine p_run _ (x_move (.bool false) rfl rfl) rfl ?_
          refine p_off (l' := (nv8 k (nums .u8 (b.map bv)) A es.length c :: .pointer (some ⟨g5, 0, none⟩) :: .bool false :: undef :: undef :: undef :: .pointer (some ⟨g5, 0, none⟩) :: .int .i64 k :: .bool false :: U4a8 (.pointer (some ⟨g5, 0, none⟩) :: .int .i64 k :: .bool false :: .bool false :: U32a8 (U16a8 (undef :: undef :: undef :: []))))) (by rw [hops18]; rfl) rfl ?_
          refine p_off (by rw [hops18]; rfl) rfl ?_
          refine p_off (by rw [hops18]; rfl) rfl ?_
          refine p_run _ (x_pick false (undef) (.bool false) (.bool false) rfl rfl rfl rfl rfl) rfl ?_
          refine p_run _ (x_move (.bool false) rfl rfl) rfl ?_
          refine p_on rfl (by rw [hops18]; rfl) ?_
          refine p_run _ (x_field (j := 1) _ _ rfl rfl Try.underlying52 rfl (by rfl) rfl) rfl ?_
          refine p_on rfl (by rw [hops18]; rfl) ?_
          refine p_run _ (x_loads ((nums .u8 (b.map bv))) 16 rfl rfl (bkCells (HS.get (.head _)) 1 _ (by simp)) (by rfl) (by kernel_rfl) (by simp [List.length_map, hb, nums_length])) rfl ?_
          refine p_on rfl (by rw [hops18]; rfl) ?_
          refine p_run _ (x_build ((nums .u8 (zK.map bv))) rfl (by kernel_rfl)) rfl ?_
          refine p_on rfl (by rw [hops18]; rfl) ?_
          refine p_run _ (x_eq .neq (.agg ((nums .u8 (b.map bv))).toArray) (.agg ((nums .u8 (zK.map bv))).toArray) (decide ((b.map bv) = (zK.map bv))) false rfl rfl rfl (equal_nums Try.underlying49 Try.underlying5 (by kernel_rfl) (by kernel_rfl) _ _ (by simp [List.length_map, hb]) (by simp [List.length_map, zK_len])) (by rw [eq_map, decide_eq_true hz]; rfl) rfl (guard_agg (by kernel_rfl)) (guard_agg (by kernel_rfl))) rfl ?_
          refine p_run _ (x_pick false (.bool true) (.bool false) (.bool false) rfl rfl rfl rfl rfl) rfl ?_
          refine p_run (l' := (nv8 k (nums .u8 (b.map bv)) A es.length c :: .pointer (some ⟨g5, 0, none⟩) :: .bool false :: undef :: undef :: undef :: .pointer (some ⟨g5, 0, none⟩) :: .int .i64 k :: .bool false :: U4a8 (.pointer (some ⟨g5, 0, none⟩) :: .int .i64 k :: .bool false :: .bool false :: undef :: undef :: undef :: .bool false :: .bool false :: .pointer (some ⟨g5, 1, none⟩) :: .agg ((nums .u8 (b.map bv))).toArray :: .agg ((nums .u8 (zK.map bv))).toArray :: .bool false :: .bool false :: .bool false :: U32a8 (U8a8 ([]))))) _ (x_move (.bool false) rfl rfl) rfl ?_
          refine p_on rfl (by rw [hops18]; rfl) ?_
          refine p_run _ (x_field (j := 17) _ _ rfl rfl Try.underlying52 rfl (by rfl) rfl) rfl ?_
          refine p_on rfl (by rw [hops18]; rfl) ?_
          refine p_run _ (x_load (.slice A es.length c) rfl rfl (bkCell (HS.get (.head _)) 17 _ (by simp [List.getElem?_append, List.length_map, hb, nums_length])) (by rfl)) rfl ?_
          refine p_on rfl (by rw [hops18]; rfl) ?_
          refine p_run _ (x_len rfl rfl Try.underlying50) rfl ?_
          refine p_on rfl (by rw [hops18]; rfl) ?_
          refine p_run _ (x_cmp (k := .i64) (m := (es.length : Int)) (n := 1) .lss false rfl rfl rfl (show decide ((es.length : Int) < 1) = false from decide_eq_false (by omega)) rfl) rfl ?_
          refine p_run _ (x_pick false (.bool true) (.bool false) (.bool false) rfl rfl rfl rfl rfl) rfl ?_
          refine p_run _ (x_move (.bool false) rfl rfl) rfl ?_
          refine p_on rfl (by rw [hops18]; rfl) ?_
          refine p_run _ (x_field (j := 17) _ _ rfl rfl Try.underlying52 rfl (by rfl) rfl) rfl ?_
          refine p_on rfl (by rw [hops18]; rfl) ?_
          refine p_run _ (x_load (.slice A es.length c) rfl rfl (bkCell (HS.get (.head _)) 17 _ (by simp [List.getElem?_append, List.length_map, hb, nums_length])) (by rfl)) rfl ?_
          refine p_on rfl (by rw [hops18]; rfl) ?_
          refine p_run _ (x_len rfl rfl Try.underlying50) rfl ?_
          refine p_on rfl (by rw [hops18]; rfl) ?_
          refine p_run (l' := (nv8 k (nums .u8 (b.map bv)) A es.length c :: .pointer (some ⟨g5, 0, none⟩) :: .bool false :: undef :: undef :: undef :: .pointer (some ⟨g5, 0, none⟩) :: .int .i64 k :: .bool false :: U4a8 (.pointer (some ⟨g5, 0, none⟩) :: .int .i64 k :: .bool false :: .bool false :: undef :: undef :: undef :: .bool false :: .bool false :: .pointer (some ⟨g5, 1, none⟩) :: .agg ((nums .u8 (b.map bv))).toArray :: .agg ((nums .u8 (zK.map bv))).toArray :: .bool false :: .bool false :: .bool false :: .pointer (some ⟨g5, 17, none⟩) :: .slice A es.length c :: .int .i64 (es.length : Int) :: .bool false :: .bool false :: .bool false :: .pointer (some ⟨g5, 17, none⟩) :: .slice A es.length c :: .int .i64 (es.length : Int) :: .bool false :: U16a8 (U8a8 (U4a8 (undef :: undef :: [])))))) _ (x_cmp (k := .i64) (m := (es.length : Int)) (n := 6) .gtr false rfl rfl rfl (show decide ((es.length : Int) > 6) = false from decide_eq_false (by omega)) rfl) rfl ?_
          refine p_run _ (x_pick false (.bool true) (.bool false) (.bool false) rfl rfl rfl rfl rfl) rfl ?_
          clear hops18
          refine wpList_nil ?_
          refine hK17 _ _ ?_
          refine c_false rfl ?_
          refine wp_skip ?_
          refine hK15 _ _ ?_
          refine wp_seq_k (fun K20 hK21 => ?_)
          refine c_region (fun ops23 hops22 => ?_)
          clear hops22
          refine p_run _ (x_assign (.int .i64 (-1)) rfl rfl) rfl ?_
          refine wpList_nil ?_
          refine hK21 _ _ ?_
          refine wp_seq_k (fun K24 hK25 => ?_)
          refine wp_seq_k (fun K26 hK27 => ?_)
          refine c_region (fun ops29 hops28 => ?_)
          clear hops28
          refine p_run _ (x_field (j := 17) _ _ rfl rfl Try.underlying52 rfl (by rfl) rfl) rfl ?_
          refine p_run _ (x_load (.slice A es.length c) rfl rfl (bkCell (HS.get (.head _)) 17 _ (by simp [List.getElem?_append, List.length_map, hb, nums_length])) (by rfl)) rfl ?_
          refine p_run _ (x_len rfl rfl Try.underlying50) rfl ?_
          refine p_run _ (x_move (.int .i64 0) rfl rfl) rfl ?_
          refine wpList_nil ?_
          refine fr_at (l' := (nv8 k (nums .u8 (b.map bv)) A es.length c :: .pointer (some ⟨g5, 0, none⟩) :: .bool false :: .int .i64 (-1) :: undef :: undef :: .pointer (some ⟨g5, 0, none⟩) :: .int .i64 k :: .bool false :: U4a8 (.pointer (some ⟨g5, 0, none⟩) :: .int .i64 k :: .bool false :: .bool false :: undef :: undef :: undef :: .bool false :: .bool false :: .pointer (some ⟨g5, 1, none⟩) :: .agg ((nums .u8 (b.map bv))).toArray :: .agg ((nums .u8 (zK.map bv))).toArray :: .bool false :: .bool false :: .bool false :: .pointer (some ⟨g5, 17, none⟩) :: .slice A es.length c :: .int .i64 (es.length : Int) :: .bool false :: .bool false :: .bool false :: .pointer (some ⟨g5, 17, none⟩) :: .slice A es.length c :: .int .i64 (es.length : Int) :: .bool false :: .bool false :: .pointer (some ⟨g5, 17, none⟩) :: .slice A es.length c :: .int .i64 (es.length : Int) :: .int .i64 0 :: U16a8 (U8a8 (undef :: []))))) rfl ?_
          refine hK27 _ _ ?_
          refine wp_block ?_
          refine c_loop (ι := Nat × Int) (fun i_ a_ w_ => match i_ with | (j, lk_) => ∃ (uq30 : Value × Value × Value × Value × Value × Value) (uq31 : Value × Value × Value × Value × Value × Value) (uq32 : Value × Value × Value × Value × Value × Value) (uq33 : Value × Value × Value × Value × Value × Value) (uq34 : Value × Value × Value), a_ = fr (nv8 k (nums .u8 (b.map bv)) A es.length c :: .pointer (some ⟨g5, 0, none⟩) :: uq30.1 :: .int .i64 lk_ :: undef :: uq30.2.1 :: .pointer (some ⟨g5, 0, none⟩) :: .int .i64 k :: .bool false :: U4a8 (.pointer (some ⟨g5, 0, none⟩) :: .int .i64 k :: .bool false :: .bool false :: undef :: undef :: undef :: .bool false :: .bool false :: .pointer (some ⟨g5, 1, none⟩) :: .agg ((nums .u8 (b.map bv))).toArray :: .agg ((nums .u8 (zK.map bv))).toArray :: .bool false :: .bool false :: .bool false :: .pointer (some ⟨g5, 17, none⟩) :: .slice A es.length c :: .int .i64 (es.length : Int) :: .bool false :: .bool false :: .bool false :: .pointer (some ⟨g5, 17, none⟩) :: .slice A es.length c :: .int .i64 (es.length : Int) :: .bool false :: .bool false :: .pointer (some ⟨g5, 17, none⟩) :: .slice A es.length c :: .int .i64 (es.length : Int) :: .int .i64 (j : Int) :: uq30.2.2.1 :: uq30.2.2.2.1 :: uq30.2.2.2.2.1 :: uq30.2.2.2.2.2 :: uq31.1 :: uq31.2.1 :: uq31.2.2.1 :: uq31.2.2.2.1 :: uq31.2.2.2.2.1 :: uq31.2.2.2.2.2 :: uq32.1 :: uq32.2.1 :: uq32.2.2.1 :: uq32.2.2.2.1 :: uq32.2.2.2.2.1 :: uq32.2.2.2.2.2 :: uq33.1 :: uq33.2.1 :: uq33.2.2.1 :: uq33.2.2.2.1 :: uq33.2.2.2.2.1 :: uq33.2.2.2.2.2 :: uq34.1 :: uq34.2.1 :: uq34.2.2 :: [])) ∧ St w (fun _ => False) w_ ([blk g5 (Value.int .i64 k :: ((nums .u8 (b.map bv)) ++ ([Value.slice A es.length c]))) 52]) ∧ (j ≤ es.length ∧ riseK es j = true ∧ lk_ = lastK es j)) (fun i_ => match i_ with | (j, lk_) => es.length - j) (0, -1) ?_ ?_
          · exact ⟨(.bool false, undef, undef, undef, undef, undef), (undef, undef, undef, undef, undef, undef), (undef, undef, undef, undef, undef, undef), (undef, undef, undef, undef, undef, undef), (undef, undef, undef), rfl, HS, ⟨by omega, rfl, rfl⟩⟩
          · clear HS
            rintro ⟨j, lk_⟩ a_ w37 ⟨uq30, uq31, uq32, uq33, uq34, rfl, HS, hI⟩ J35 hJ36
            obtain ⟨hjl, hI2, hlk⟩ := hI
            subst hlk
            have hI := And.intro hjl hI2
            refine wp_seq_k (fun K38 hK39 => ?_)
            refine c_region (fun ops41 hops40 => ?_)
            clear hops40
            refine p_run _ (x_cmp (k := .i64) (m := (j : Int)) (n := (es.length : Int)) .lss (decide ((j : Int) < (es.length : Int))) rfl rfl rfl rfl rfl) rfl ?_
            refine wpList_nil ?_
            refine hK39 _ _ ?_
            refine wp_seq_k (fun K42 hK43 => ?_)
            refine c_cond (t := decide ((j : Int) < (es.length : Int))) rfl (fun hc44 => ?_) (fun hc44 => ?_)
            · have hlt : j < es.length := by have := of_decide_eq_true hc44; omega
              obtain ⟨ad, x, rfl, hx, hcell⟩ := en_get (Kd.C_below hr HS.belowOf) j hlt
              refine wp_skip ?_
              refine hK43 _ _ ?_
              refine wp_seq_k (fun K45 hK46 => ?_)
              refine wp_block ?_
              refine wp_seq_k (fun K47 hK48 => ?_)
              refine c_region (fun ops50 hops49 => ?_)
              clear hops49
              refine p_run _ (x_index (A := ad) (j := j * 2) (sz := 2) rfl rfl rfl Try.underlying50 (by kernel_rfl) (by omega) rfl) rfl ?_
              refine p_run _ (x_loads [.int .i64 x.1, .int .i64 x.2] 2 rfl rfl hcell (by rfl) (by kernel_rfl) rfl) rfl ?_
              refine St.wAlloc HS (cs := [.int .i64 0, .int .i64 0]) (.agg [.int .i64 0, .int .i64 0].toArray) (by kernel_rfl) rfl ?_
              clear HS
              intro g51 w52 hg53 HS
              refine St.stores (cs' := [.int .i64 x.1, .int .i64 x.2]) HS [.int .i64 x.1, .int .i64 x.2] 2 rfl rfl (by rfl) (by kernel_rfl) rfl (by simp) rfl ?_
              clear HS
              intro w54 HS
              refine wpList_nil ?_
              refine hK48 _ _ ?_
              refine wp_seq_k (fun K55 hK56 => ?_)
              refine wp_seq_k (fun K57 hK58 => ?_)
              rcases rr_in hx hI.2 with ⟨he, h1⟩ | ⟨he, h1, h2⟩ | ⟨he, h1, h2, h3⟩ | ⟨he, h1, h2, h3, h4⟩ | ⟨he, h1, h2, h3, h4⟩
              · skip
                refine c_region (fun ops60 hops59 => ?_)
                refine p_run _ (x_field (j := 0) _ _ rfl rfl Try.underlying62 rfl (by rfl) rfl) rfl ?_
                refine p_run _ (x_load (.int .i64 x.1) rfl rfl (bkCell (HS.get (.head _)) 0 _ rfl) (by rfl)) rfl ?_
                refine p_run _ (x_move (.int .i64 (lastK es j)) rfl rfl) rfl ?_
                refine p_run _ (x_cmp (k := .i64) (m := x.1) (n := (lastK es j)) .leq true rfl rfl rfl (show decide _ = true from decide_eq_true h1) rfl) rfl ?_
                refine p_run _ (x_move (.bool true) rfl rfl) rfl ?_
                refine p_off (l' := (nv8 k (nums .u8 (b.map bv)) (some ad) es.length c :: .pointer (some ⟨g5, 0, none⟩) :: uq30.1 :: .int .i64 (lastK es j) :: undef :: .pointer (some ⟨g51, 0, none⟩) :: .pointer (some ⟨g5, 0, none⟩) :: .int .i64 k :: .bool false :: U4a8 (.pointer (some ⟨g5, 0, none⟩) :: .int .i64 k :: .bool false :: .bool false :: undef :: undef :: undef :: .bool false :: .bool false :: .pointer (some ⟨g5, 1, none⟩) :: .agg ((nums .u8 (b.map bv))).toArray :: .agg ((nums .u8 (zK.map bv))).toArray :: .bool false :: .bool false :: .bool false :: .pointer (some ⟨g5, 17, none⟩) :: .slice (some ad) es.length c :: .int .i64 (es.length : Int) :: .bool false :: .bool false :: .bool false :: .pointer (some ⟨g5, 17, none⟩) :: .slice (some ad) es.length c :: .int .i64 (es.length : Int) :: .bool false :: .bool false :: .pointer (some ⟨g5, 17, none⟩) :: .slice (some ad) es.length c :: .int .i64 (es.length : Int) :: .int .i64 (j : Int) :: .bool (decide ((j : Int) < (es.length : Int))) :: .pointer (some ((ad).add (j * 2))) :: .agg ([.int .i64 x.1, .int .i64 x.2] : List Value).toArray :: .pointer (some ⟨g51, 0, none⟩) :: .int .i64 x.1 :: .int .i64 (lastK es j) :: .bool true :: .bool true :: undef :: uq31.2.2.2.2.2 :: uq32.1 :: uq32.2.1 :: uq32.2.2.1 :: uq32.2.2.2.1 :: uq32.2.2.2.2.1 :: uq32.2.2.2.2.2 :: uq33.1 :: uq33.2.1 :: uq33.2.2.1 :: uq33.2.2.2.1 :: uq33.2.2.2.2.1 :: uq33.2.2.2.2.2 :: uq34.1 :: uq34.2.1 :: uq34.2.2 :: []))) (by rw [hops59]; rfl) rfl ?_
                refine p_off (by rw [hops59]; rfl) rfl ?_
                refine p_off (by rw [hops59]; rfl) rfl ?_
                refine p_run _ (x_pick true (.bool true) (undef) (.bool true) rfl rfl rfl rfl rfl) rfl ?_
                refine p_run _ (x_move (.bool true) rfl rfl) rfl ?_
                refine p_off (by rw [hops59]; rfl) rfl ?_
                refine p_off (by rw [hops59]; rfl) rfl ?_
                refine p_off (by rw [hops59]; rfl) rfl ?_
                refine p_run _ (x_pick true (.bool true) (undef) (.bool true) rfl rfl rfl rfl rfl) rfl ?_
                refine p_run _ (x_move (.bool true) rfl rfl) rfl ?_
                refine p_off (l' := (nv8 k (nums .u8 (b.map bv)) (some ad) es.length c :: .pointer (some ⟨g5, 0, none⟩) :: uq30.1 :: .int .i64 (lastK es j) :: undef :: .pointer (some ⟨g51, 0, none⟩) :: .pointer (some ⟨g5, 0, none⟩) :: .int .i64 k :: .bool false :: U4a8 (.pointer (some ⟨g5, 0, none⟩) :: .int .i64 k :: .bool false :: .bool false :: undef :: undef :: undef :: .bool false :: .bool false :: .pointer (some ⟨g5, 1, none⟩) :: .agg ((nums .u8 (b.map bv))).toArray :: .agg ((nums .u8 (zK.map bv))).toArray :: .bool false :: .bool false :: .bool false :: .pointer (some ⟨g5, 17, none⟩) :: .slice (some ad) es.length c :: .int .i64 (es.length : Int) :: .bool false :: .bool false :: .bool false :: .pointer (some ⟨g5, 17, none⟩) :: .slice (some ad) es.length c :: .int .i64 (es.length : Int) :: .bool false :: .bool false :: .pointer (some ⟨g5, 17, none⟩) :: .slice (some ad) es.length c :: .int .i64 (es.length : Int) :: .int .i64 (j : Int) :: .bool (decide ((j : Int) < (es.length : Int))) :: .pointer (some ((ad).add (j * 2))) :: .agg ([.int .i64 x.1, .int .i64 x.2] : List Value).toArray :: .pointer (some ⟨g51, 0, none⟩) :: .int .i64 x.1 :: .int .i64 (lastK es j) :: .bool true :: .bool true :: undef :: undef :: undef :: .bool true :: .bool true :: undef :: undef :: undef :: .bool true :: .bool true :: undef :: uq33.2.2.2.1 :: uq33.2.2.2.2.1 :: uq33.2.2.2.2.2 :: uq34.1 :: uq34.2.1 :: uq34.2.2 :: []))) (by rw [hops59]; rfl) rfl ?_
                refine p_off (by rw [hops59]; rfl) rfl ?_
                refine p_off (by rw [hops59]; rfl) rfl ?_
                refine p_run _ (x_pick true (.bool true) (undef) (.bool true) rfl rfl rfl rfl rfl) rfl ?_
                clear hops59
                refine wpList_nil ?_
                refine hK58 _ _ ?_
                refine c_true rfl ?_
                refine wp_seq_k (fun K61 hK62 => ?_)
                refine c_region (fun ops64 hops63 => ?_)
                clear hops63
                refine p_run _ (x_assign (.bool false) rfl rfl) rfl ?_
                refine wpList_nil ?_
                refine hK62 _ _ ?_
                refine wp_ret ?_
                try simp only [Exit.inBlock, Exit.then]
                refine c_ret (.bool false) (r_tmp rfl rfl) ?_
                have e1 : ndOk k b es = false := by unfold ndOk; rw [if_neg hk1, if_pos (.inl hk)]; rw [rise_no hlt he]; simp
                rw [e1]
                exact ⟨rfl, HS.belowOf⟩
              · skip
                refine c_region (fun ops66 hops65 => ?_)
                refine p_run _ (x_field (j := 0) _ _ rfl rfl Try.underlying62 rfl (by rfl) rfl) rfl ?_
                refine p_run _ (x_load (.int .i64 x.1) rfl rfl (bkCell (HS.get (.head _)) 0 _ rfl) (by rfl)) rfl ?_
                refine p_run _ (x_move (.int .i64 (lastK es j)) rfl rfl) rfl ?_
                refine p_run _ (x_cmp (k := .i64) (m := x.1) (n := (lastK es j)) .leq false rfl rfl rfl (show decide _ = false from decide_eq_false h1) rfl) rfl ?_
                refine p_run _ (x_move (.bool false) rfl rfl) rfl ?_
                refine p_on rfl (by rw [hops65]; rfl) ?_
                refine p_run (l' := (nv8 k (nums .u8 (b.map bv)) (some ad) es.length c :: .pointer (some ⟨g5, 0, none⟩) :: uq30.1 :: .int .i64 (lastK es j) :: undef :: .pointer (some ⟨g51, 0, none⟩) :: .pointer (some ⟨g5, 0, none⟩) :: .int .i64 k :: .bool false :: U4a8 (.pointer (some ⟨g5, 0, none⟩) :: .int .i64 k :: .bool false :: .bool false :: undef :: undef :: undef :: .bool false :: .bool false :: .pointer (some ⟨g5, 1, none⟩) :: .agg ((nums .u8 (b.map bv))).toArray :: .agg ((nums .u8 (zK.map bv))).toArray :: .bool false :: .bool false :: .bool false :: .pointer (some ⟨g5, 17, none⟩) :: .slice (some ad) es.length c :: .int .i64 (es.length : Int) :: .bool false :: .bool false :: .bool false :: .pointer (some ⟨g5, 17, none⟩) :: .slice (some ad) es.length c :: .int .i64 (es.length : Int) :: .bool false :: .bool false :: .pointer (some ⟨g5, 17, none⟩) :: .slice (some ad) es.length c :: .int .i64 (es.length : Int) :: .int .i64 (j : Int) :: .bool (decide ((j : Int) < (es.length : Int))) :: .pointer (some ((ad).add (j * 2))) :: .agg ([.int .i64 x.1, .int .i64 x.2] : List Value).toArray :: .pointer (some ⟨g51, 0, none⟩) :: .int .i64 x.1 :: .int .i64 (lastK es j) :: .bool false :: .bool false :: .pointer (some ⟨g51, 0, none⟩) :: uq31.2.2.2.2.2 :: uq32.1 :: uq32.2.1 :: uq32.2.2.1 :: uq32.2.2.2.1 :: uq32.2.2.2.2.1 :: uq32.2.2.2.2.2 :: uq33.1 :: uq33.2.1 :: uq33.2.2.1 :: uq33.2.2.2.1 :: uq33.2.2.2.2.1 :: uq33.2.2.2.2.2 :: uq34.1 :: uq34.2.1 :: uq34.2.2 :: []))) _ (x_field (j := 0) _ _ rfl rfl Try.underlying62 rfl (by rfl) rfl) rfl ?_
                refine p_on rfl (by rw [hops65]; rfl) ?_
                refine p_run _ (x_load (.int .i64 x.1) rfl rfl (bkCell (HS.get (.head _)) 0 _ rfl) (by rfl)) rfl ?_
                refine p_on rfl (by rw [hops65]; rfl) ?_
                refine p_run _ (x_cmp (k := .i64) (m := x.1) (n := 63) .gtr true rfl rfl rfl (show decide _ = true from decide_eq_true h2) rfl) rfl ?_
                refine p_run _ (x_pick false (.bool true) (.bool true) (.bool true) rfl rfl rfl rfl rfl) rfl ?_
                refine p_run _ (x_move (.bool true) rfl rfl) rfl ?_
                refine p_off (by rw [hops65]; rfl) rfl ?_
                refine p_off (by rw [hops65]; rfl) rfl ?_
                refine p_off (by rw [hops65]; rfl) rfl ?_
                refine p_run _ (x_pick true (.bool true) (undef) (.bool true) rfl rfl rfl rfl rfl) rfl ?_
                refine p_run _ (x_move (.bool true) rfl rfl) rfl ?_
                refine p_off (l' := (nv8 k (nums .u8 (b.map bv)) (some ad) es.length c :: .pointer (some ⟨g5, 0, none⟩) :: uq30.1 :: .int .i64 (lastK es j) :: undef :: .pointer (some ⟨g51, 0, none⟩) :: .pointer (some ⟨g5, 0, none⟩) :: .int .i64 k :: .bool false :: U4a8 (.pointer (some ⟨g5, 0, none⟩) :: .int .i64 k :: .bool false :: .bool false :: undef :: undef :: undef :: .bool false :: .bool false :: .pointer (some ⟨g5, 1, none⟩) :: .agg ((nums .u8 (b.map bv))).toArray :: .agg ((nums .u8 (zK.map bv))).toArray :: .bool false :: .bool false :: .bool false :: .pointer (some ⟨g5, 17, none⟩) :: .slice (some ad) es.length c :: .int .i64 (es.length : Int) :: .bool false :: .bool false :: .bool false :: .pointer (some ⟨g5, 17, none⟩) :: .slice (some ad) es.length c :: .int .i64 (es.length : Int) :: .bool false :: .bool false :: .pointer (some ⟨g5, 17, none⟩) :: .slice (some ad) es.length c :: .int .i64 (es.length : Int) :: .int .i64 (j : Int) :: .bool (decide ((j : Int) < (es.length : Int))) :: .pointer (some ((ad).add (j * 2))) :: .agg ([.int .i64 x.1, .int .i64 x.2] : List Value).toArray :: .pointer (some ⟨g51, 0, none⟩) :: .int .i64 x.1 :: .int .i64 (lastK es j) :: .bool false :: .bool false :: .pointer (some ⟨g51, 0, none⟩) :: .int .i64 x.1 :: .bool true :: .bool true :: .bool true :: undef :: undef :: undef :: .bool true :: .bool true :: undef :: uq33.2.2.2.1 :: uq33.2.2.2.2.1 :: uq33.2.2.2.2.2 :: uq34.1 :: uq34.2.1 :: uq34.2.2 :: []))) (by rw [hops65]; rfl) rfl ?_
                refine p_off (by rw [hops65]; rfl) rfl ?_
                refine p_off (by rw [hops65]; rfl) rfl ?_
                refine p_run _ (x_pick true (.bool true) (undef) (.bool true) rfl rfl rfl rfl rfl) rfl ?_
                clear hops65
                refine wpList_nil ?_
                refine hK58 _ _ ?_
                refine c_true rfl ?_
                refine wp_seq_k (fun K67 hK68 => ?_)
                refine c_region (fun ops70 hops69 => ?_)
                clear hops69
                refine p_run _ (x_assign (.bool false) rfl rfl) rfl ?_
                refine wpList_nil ?_
                refine hK68 _ _ ?_
                refine wp_ret ?_
                try simp only [Exit.inBlock, Exit.then]
                refine c_ret (.bool false) (r_tmp rfl rfl) ?_
                have e1 : ndOk k b es = false := by unfold ndOk; rw [if_neg hk1, if_pos (.inl hk)]; rw [rise_no hlt he]; simp
                rw [e1]
                exact ⟨rfl, HS.belowOf⟩
              · skip
                refine c_region (fun ops72 hops71 => ?_)
                refine p_run _ (x_field (j := 0) _ _ rfl rfl Try.underlying62 rfl (by rfl) rfl) rfl ?_
                refine p_run _ (x_load (.int .i64 x.1) rfl rfl (bkCell (HS.get (.head _)) 0 _ rfl) (by rfl)) rfl ?_
                refine p_run _ (x_move (.int .i64 (lastK es j)) rfl rfl) rfl ?_
                refine p_run _ (x_cmp (k := .i64) (m := x.1) (n := (lastK es j)) .leq false rfl rfl rfl (show decide _ = false from decide_eq_false h1) rfl) rfl ?_
                refine p_run _ (x_move (.bool false) rfl rfl) rfl ?_
                refine p_on rfl (by rw [hops71]; rfl) ?_
                refine p_run (l' := (nv8 k (nums .u8 (b.map bv)) (some ad) es.length c :: .pointer (some ⟨g5, 0, none⟩) :: uq30.1 :: .int .i64 (lastK es j) :: undef :: .pointer (some ⟨g51, 0, none⟩) :: .pointer (some ⟨g5, 0, none⟩) :: .int .i64 k :: .bool false :: U4a8 (.pointer (some ⟨g5, 0, none⟩) :: .int .i64 k :: .bool false :: .bool false :: undef :: undef :: undef :: .bool false :: .bool false :: .pointer (some ⟨g5, 1, none⟩) :: .agg ((nums .u8 (b.map bv))).toArray :: .agg ((nums .u8 (zK.map bv))).toArray :: .bool false :: .bool false :: .bool false :: .pointer (some ⟨g5, 17, none⟩) :: .slice (some ad) es.length c :: .int .i64 (es.length : Int) :: .bool false :: .bool false :: .bool false :: .pointer (some ⟨g5, 17, none⟩) :: .slice (some ad) es.length c :: .int .i64 (es.length : Int) :: .bool false :: .bool false :: .pointer (some ⟨g5, 17, none⟩) :: .slice (some ad) es.length c :: .int .i64 (es.length : Int) :: .int .i64 (j : Int) :: .bool (decide ((j : Int) < (es.length : Int))) :: .pointer (some ((ad).add (j * 2))) :: .agg ([.int .i64 x.1, .int .i64 x.2] : List Value).toArray :: .pointer (some ⟨g51, 0, none⟩) :: .int .i64 x.1 :: .int .i64 (lastK es j) :: .bool false :: .bool false :: .pointer (some ⟨g51, 0, none⟩) :: uq31.2.2.2.2.2 :: uq32.1 :: uq32.2.1 :: uq32.2.2.1 :: uq32.2.2.2.1 :: uq32.2.2.2.2.1 :: uq32.2.2.2.2.2 :: uq33.1 :: uq33.2.1 :: uq33.2.2.1 :: uq33.2.2.2.1 :: uq33.2.2.2.2.1 :: uq33.2.2.2.2.2 :: uq34.1 :: uq34.2.1 :: uq34.2.2 :: []))) _ (x_field (j := 0) _ _ rfl rfl Try.underlying62 rfl (by rfl) rfl) rfl ?_
                refine p_on rfl (by rw [hops71]; rfl) ?_
                refine p_run _ (x_load (.int .i64 x.1) rfl rfl (bkCell (HS.get (.head _)) 0 _ rfl) (by rfl)) rfl ?_
                refine p_on rfl (by rw [hops71]; rfl) ?_
                refine p_run _ (x_cmp (k := .i64) (m := x.1) (n := 63) .gtr false rfl rfl rfl (show decide _ = false from decide_eq_false h2) rfl) rfl ?_
                refine p_run _ (x_pick false (.bool true) (.bool false) (.bool false) rfl rfl rfl rfl rfl) rfl ?_
                refine p_run _ (x_move (.bool false) rfl rfl) rfl ?_
                refine p_on rfl (by rw [hops71]; rfl) ?_
                refine p_run _ (x_field (j := 1) _ _ rfl rfl Try.underlying62 rfl (by rfl) rfl) rfl ?_
                refine p_on rfl (by rw [hops71]; rfl) ?_
                refine p_run _ (x_load (.int .i64 x.2) rfl rfl (bkCell (HS.get (.head _)) 1 _ rfl) (by rfl)) rfl ?_
                refine p_on rfl (by rw [hops71]; rfl) ?_
                refine p_run _ (x_cmp (k := .i64) (m := x.2) (n := 0) .lss true rfl rfl rfl (show decide _ = true from decide_eq_true h3) rfl) rfl ?_
                refine p_run _ (x_pick false (.bool true) (.bool true) (.bool true) rfl rfl rfl rfl rfl) rfl ?_
                refine p_run _ (x_move (.bool true) rfl rfl) rfl ?_
                refine p_off (l' := (nv8 k (nums .u8 (b.map bv)) (some ad) es.length c :: .pointer (some ⟨g5, 0, none⟩) :: uq30.1 :: .int .i64 (lastK es j) :: undef :: .pointer (some ⟨g51, 0, none⟩) :: .pointer (some ⟨g5, 0, none⟩) :: .int .i64 k :: .bool false :: U4a8 (.pointer (some ⟨g5, 0, none⟩) :: .int .i64 k :: .bool false :: .bool false :: undef :: undef :: undef :: .bool false :: .bool false :: .pointer (some ⟨g5, 1, none⟩) :: .agg ((nums .u8 (b.map bv))).toArray :: .agg ((nums .u8 (zK.map bv))).toArray :: .bool false :: .bool false :: .bool false :: .pointer (some ⟨g5, 17, none⟩) :: .slice (some ad) es.length c :: .int .i64 (es.length : Int) :: .bool false :: .bool false :: .bool false :: .pointer (some ⟨g5, 17, none⟩) :: .slice (some ad) es.length c :: .int .i64 (es.length : Int) :: .bool false :: .bool false :: .pointer (some ⟨g5, 17, none⟩) :: .slice (some ad) es.length c :: .int .i64 (es.length : Int) :: .int .i64 (j : Int) :: .bool (decide ((j : Int) < (es.length : Int))) :: .pointer (some ((ad).add (j * 2))) :: .agg ([.int .i64 x.1, .int .i64 x.2] : List Value).toArray :: .pointer (some ⟨g51, 0, none⟩) :: .int .i64 x.1 :: .int .i64 (lastK es j) :: .bool false :: .bool false :: .pointer (some ⟨g51, 0, none⟩) :: .int .i64 x.1 :: .bool false :: .bool false :: .bool false :: .pointer (some ⟨g51, 1, none⟩) :: .int .i64 x.2 :: .bool true :: .bool true :: .bool true :: undef :: uq33.2.2.2.1 :: uq33.2.2.2.2.1 :: uq33.2.2.2.2.2 :: uq34.1 :: uq34.2.1 :: uq34.2.2 :: []))) (by rw [hops71]; rfl) rfl ?_
                refine p_off (by rw [hops71]; rfl) rfl ?_
                refine p_off (by rw [hops71]; rfl) rfl ?_
                refine p_run _ (x_pick true (.bool true) (undef) (.bool true) rfl rfl rfl rfl rfl) rfl ?_
                clear hops71
                refine wpList_nil ?_
                refine hK58 _ _ ?_
                refine c_true rfl ?_
                refine wp_seq_k (fun K73 hK74 => ?_)
                refine c_region (fun ops76 hops75 => ?_)
                clear hops75
                refine p_run _ (x_assign (.bool false) rfl rfl) rfl ?_
                refine wpList_nil ?_
                refine hK74 _ _ ?_
                refine wp_ret ?_
                try simp only [Exit.inBlock, Exit.then]
                refine c_ret (.bool false) (r_tmp rfl rfl) ?_
                have e1 : ndOk k b es = false := by unfold ndOk; rw [if_neg hk1, if_pos (.inl hk)]; rw [rise_no hlt he]; simp
                rw [e1]
                exact ⟨rfl, HS.belowOf⟩
              · skip
                refine c_region (fun ops78 hops77 => ?_)
                refine p_run _ (x_field (j := 0) _ _ rfl rfl Try.underlying62 rfl (by rfl) rfl) rfl ?_
                refine p_run _ (x_load (.int .i64 x.1) rfl rfl (bkCell (HS.get (.head _)) 0 _ rfl) (by rfl)) rfl ?_
                refine p_run _ (x_move (.int .i64 (lastK es j)) rfl rfl) rfl ?_
                refine p_run _ (x_cmp (k := .i64) (m := x.1) (n := (lastK es j)) .leq false rfl rfl rfl (show decide _ = false from decide_eq_false h1) rfl) rfl ?_
                refine p_run _ (x_move (.bool false) rfl rfl) rfl ?_
                refine p_on rfl (by rw [hops77]; rfl) ?_
                refine p_run (l' := (nv8 k (nums .u8 (b.map bv)) (some ad) es.length c :: .pointer (some ⟨g5, 0, none⟩) :: uq30.1 :: .int .i64 (lastK es j) :: undef :: .pointer (some ⟨g51, 0, none⟩) :: .pointer (some ⟨g5, 0, none⟩) :: .int .i64 k :: .bool false :: U4a8 (.pointer (some ⟨g5, 0, none⟩) :: .int .i64 k :: .bool false :: .bool false :: undef :: undef :: undef :: .bool false :: .bool false :: .pointer (some ⟨g5, 1, none⟩) :: .agg ((nums .u8 (b.map bv))).toArray :: .agg ((nums .u8 (zK.map bv))).toArray :: .bool false :: .bool false :: .bool false :: .pointer (some ⟨g5, 17, none⟩) :: .slice (some ad) es.length c :: .int .i64 (es.length : Int) :: .bool false :: .bool false :: .bool false :: .pointer (some ⟨g5, 17, none⟩) :: .slice (some ad) es.length c :: .int .i64 (es.length : Int) :: .bool false :: .bool false :: .pointer (some ⟨g5, 17, none⟩) :: .slice (some ad) es.length c :: .int .i64 (es.length : Int) :: .int .i64 (j : Int) :: .bool (decide ((j : Int) < (es.length : Int))) :: .pointer (some ((ad).add (j * 2))) :: .agg ([.int .i64 x.1, .int .i64 x.2] : List Value).toArray :: .pointer (some ⟨g51, 0, none⟩) :: .int .i64 x.1 :: .int .i64 (lastK es j) :: .bool false :: .bool false :: .pointer (some ⟨g51, 0, none⟩) :: uq31.2.2.2.2.2 :: uq32.1 :: uq32.2.1 :: uq32.2.2.1 :: uq32.2.2.2.1 :: uq32.2.2.2.2.1 :: uq32.2.2.2.2.2 :: uq33.1 :: uq33.2.1 :: uq33.2.2.1 :: uq33.2.2.2.1 :: uq33.2.2.2.2.1 :: uq33.2.2.2.2.2 :: uq34.1 :: uq34.2.1 :: uq34.2.2 :: []))) _ (x_field (j := 0) _ _ rfl rfl Try.underlying62 rfl (by rfl) rfl) rfl ?_
                refine p_on rfl (by rw [hops77]; rfl) ?_
                refine p_run _ (x_load (.int .i64 x.1) rfl rfl (bkCell (HS.get (.head _)) 0 _ rfl) (by rfl)) rfl ?_
                refine p_on rfl (by rw [hops77]; rfl) ?_
                refine p_run _ (x_cmp (k := .i64) (m := x.1) (n := 63) .gtr false rfl rfl rfl (show decide _ = false from decide_eq_false h2) rfl) rfl ?_
                refine p_run _ (x_pick false (.bool true) (.bool false) (.bool false) rfl rfl rfl rfl rfl) rfl ?_
                refine p_run _ (x_move (.bool false) rfl rfl) rfl ?_
                refine p_on rfl (by rw [hops77]; rfl) ?_
                refine p_run _ (x_field (j := 1) _ _ rfl rfl Try.underlying62 rfl (by rfl) rfl) rfl ?_
                refine p_on rfl (by rw [hops77]; rfl) ?_
                refine p_run _ (x_load (.int .i64 x.2) rfl rfl (bkCell (HS.get (.head _)) 1 _ rfl) (by rfl)) rfl ?_
                refine p_on rfl (by rw [hops77]; rfl) ?_
                refine p_run _ (x_cmp (k := .i64) (m := x.2) (n := 0) .lss false rfl rfl rfl (show decide _ = false from decide_eq_false h3) rfl) rfl ?_
                refine p_run _ (x_pick false (.bool true) (.bool false) (.bool false) rfl rfl rfl rfl rfl) rfl ?_
                refine p_run _ (x_move (.bool false) rfl rfl) rfl ?_
                refine p_on rfl (by rw [hops77]; rfl) ?_
                refine p_run (l' := (nv8 k (nums .u8 (b.map bv)) (some ad) es.length c :: .pointer (some ⟨g5, 0, none⟩) :: uq30.1 :: .int .i64 (lastK es j) :: undef :: .pointer (some ⟨g51, 0, none⟩) :: .pointer (some ⟨g5, 0, none⟩) :: .int .i64 k :: .bool false :: U4a8 (.pointer (some ⟨g5, 0, none⟩) :: .int .i64 k :: .bool false :: .bool false :: undef :: undef :: undef :: .bool false :: .bool false :: .pointer (some ⟨g5, 1, none⟩) :: .agg ((nums .u8 (b.map bv))).toArray :: .agg ((nums .u8 (zK.map bv))).toArray :: .bool false :: .bool false :: .bool false :: .pointer (some ⟨g5, 17, none⟩) :: .slice (some ad) es.length c :: .int .i64 (es.length : Int) :: .bool false :: .bool false :: .bool false :: .pointer (some ⟨g5, 17, none⟩) :: .slice (some ad) es.length c :: .int .i64 (es.length : Int) :: .bool false :: .bool false :: .pointer (some ⟨g5, 17, none⟩) :: .slice (some ad) es.length c :: .int .i64 (es.length : Int) :: .int .i64 (j : Int) :: .bool (decide ((j : Int) < (es.length : Int))) :: .pointer (some ((ad).add (j * 2))) :: .agg ([.int .i64 x.1, .int .i64 x.2] : List Value).toArray :: .pointer (some ⟨g51, 0, none⟩) :: .int .i64 x.1 :: .int .i64 (lastK es j) :: .bool false :: .bool false :: .pointer (some ⟨g51, 0, none⟩) :: .int .i64 x.1 :: .bool false :: .bool false :: .bool false :: .pointer (some ⟨g51, 1, none⟩) :: .int .i64 x.2 :: .bool false :: .bool false :: .bool false :: .pointer (some ⟨g51, 1, none⟩) :: uq33.2.2.2.1 :: uq33.2.2.2.2.1 :: uq33.2.2.2.2.2 :: uq34.1 :: uq34.2.1 :: uq34.2.2 :: []))) _ (x_field (j := 1) _ _ rfl rfl Try.underlying62 rfl (by rfl) rfl) rfl ?_
                refine p_on rfl (by rw [hops77]; rfl) ?_
                refine p_run _ (x_load (.int .i64 x.2) rfl rfl (bkCell (HS.get (.head _)) 1 _ rfl) (by rfl)) rfl ?_
                refine p_on rfl (by rw [hops77]; rfl) ?_
                refine p_run _ (x_cmp (k := .i64) (m := x.2) (n := 239) .gtr true rfl rfl rfl (show decide _ = true from decide_eq_true h4) rfl) rfl ?_
                refine p_run _ (x_pick false (.bool true) (.bool true) (.bool true) rfl rfl rfl rfl rfl) rfl ?_
                clear hops77
                refine wpList_nil ?_
                refine hK58 _ _ ?_
                refine c_true rfl ?_
                refine wp_seq_k (fun K79 hK80 => ?_)
                refine c_region (fun ops82 hops81 => ?_)
                clear hops81
                refine p_run _ (x_assign (.bool false) rfl rfl) rfl ?_
                refine wpList_nil ?_
                refine hK80 _ _ ?_
                refine wp_ret ?_
                try simp only [Exit.inBlock, Exit.then]
                refine c_ret (.bool false) (r_tmp rfl rfl) ?_
                have e1 : ndOk k b es = false := by unfold ndOk; rw [if_neg hk1, if_pos (.inl hk)]; rw [rise_no hlt he]; simp
                rw [e1]
                exact ⟨rfl, HS.belowOf⟩
              · skip
                refine c_region (fun ops84 hops83 => ?_)
                refine p_run _ (x_field (j := 0) _ _ rfl rfl Try.underlying62 rfl (by rfl) rfl) rfl ?_
                refine p_run _ (x_load (.int .i64 x.1) rfl rfl (bkCell (HS.get (.head _)) 0 _ rfl) (by rfl)) rfl ?_
                refine p_run _ (x_move (.int .i64 (lastK es j)) rfl rfl) rfl ?_
                refine p_run _ (x_cmp (k := .i64) (m := x.1) (n := (lastK es j)) .leq false rfl rfl rfl (show decide _ = false from decide_eq_false h1) rfl) rfl ?_
                refine p_run _ (x_move (.bool false) rfl rfl) rfl ?_
                refine p_on rfl (by rw [hops83]; rfl) ?_
                refine p_run (l' := (nv8 k (nums .u8 (b.map bv)) (some ad) es.length c :: .pointer (some ⟨g5, 0, none⟩) :: uq30.1 :: .int .i64 (lastK es j) :: undef :: .pointer (some ⟨g51, 0, none⟩) :: .pointer (some ⟨g5, 0, none⟩) :: .int .i64 k :: .bool false :: U4a8 (.pointer (some ⟨g5, 0, none⟩) :: .int .i64 k :: .bool false :: .bool false :: undef :: undef :: undef :: .bool false :: .bool false :: .pointer (some ⟨g5, 1, none⟩) :: .agg ((nums .u8 (b.map bv))).toArray :: .agg ((nums .u8 (zK.map bv))).toArray :: .bool false :: .bool false :: .bool false :: .pointer (some ⟨g5, 17, none⟩) :: .slice (some ad) es.length c :: .int .i64 (es.length : Int) :: .bool false :: .bool false :: .bool false :: .pointer (some ⟨g5, 17, none⟩) :: .slice (some ad) es.length c :: .int .i64 (es.length : Int) :: .bool false :: .bool false :: .pointer (some ⟨g5, 17, none⟩) :: .slice (some ad) es.length c :: .int .i64 (es.length : Int) :: .int .i64 (j : Int) :: .bool (decide ((j : Int) < (es.length : Int))) :: .pointer (some ((ad).add (j * 2))) :: .agg ([.int .i64 x.1, .int .i64 x.2] : List Value).toArray :: .pointer (some ⟨g51, 0, none⟩) :: .int .i64 x.1 :: .int .i64 (lastK es j) :: .bool false :: .bool false :: .pointer (some ⟨g51, 0, none⟩) :: uq31.2.2.2.2.2 :: uq32.1 :: uq32.2.1 :: uq32.2.2.1 :: uq32.2.2.2.1 :: uq32.2.2.2.2.1 :: uq32.2.2.2.2.2 :: uq33.1 :: uq33.2.1 :: uq33.2.2.1 :: uq33.2.2.2.1 :: uq33.2.2.2.2.1 :: uq33.2.2.2.2.2 :: uq34.1 :: uq34.2.1 :: uq34.2.2 :: []))) _ (x_field (j := 0) _ _ rfl rfl Try.underlying62 rfl (by rfl) rfl) rfl ?_
                refine p_on rfl (by rw [hops83]; rfl) ?_
                refine p_run _ (x_load (.int .i64 x.1) rfl rfl (bkCell (HS.get (.head _)) 0 _ rfl) (by rfl)) rfl ?_
                refine p_on rfl (by rw [hops83]; rfl) ?_
                refine p_run _ (x_cmp (k := .i64) (m := x.1) (n := 63) .gtr false rfl rfl rfl (show decide _ = false from decide_eq_false h2) rfl) rfl ?_
                refine p_run _ (x_pick false (.bool true) (.bool false) (.bool false) rfl rfl rfl rfl rfl) rfl ?_
                refine p_run _ (x_move (.bool false) rfl rfl) rfl ?_
                refine p_on rfl (by rw [hops83]; rfl) ?_
                refine p_run _ (x_field (j := 1) _ _ rfl rfl Try.underlying62 rfl (by rfl) rfl) rfl ?_
                refine p_on rfl (by rw [hops83]; rfl) ?_
                refine p_run _ (x_load (.int .i64 x.2) rfl rfl (bkCell (HS.get (.head _)) 1 _ rfl) (by rfl)) rfl ?_
                refine p_on rfl (by rw [hops83]; rfl) ?_
                refine p_run _ (x_cmp (k := .i64) (m := x.2) (n := 0) .lss false rfl rfl rfl (show decide _ = false from decide_eq_false h3) rfl) rfl ?_
                refine p_run _ (x_pick false (.bool true) (.bool false) (.bool false) rfl rfl rfl rfl rfl) rfl ?_
                refine p_run _ (x_move (.bool false) rfl rfl) rfl ?_
                refine p_on rfl (by rw [hops83]; rfl) ?_
                refine p_run (l' := (nv8 k (nums .u8 (b.map bv)) (some ad) es.length c :: .pointer (some ⟨g5, 0, none⟩) :: uq30.1 :: .int .i64 (lastK es j) :: undef :: .pointer (some ⟨g51, 0, none⟩) :: .pointer (some ⟨g5, 0, none⟩) :: .int .i64 k :: .bool false :: U4a8 (.pointer (some ⟨g5, 0, none⟩) :: .int .i64 k :: .bool false :: .bool false :: undef :: undef :: undef :: .bool false :: .bool false :: .pointer (some ⟨g5, 1, none⟩) :: .agg ((nums .u8 (b.map bv))).toArray :: .agg ((nums .u8 (zK.map bv))).toArray :: .bool false :: .bool false :: .bool false :: .pointer (some ⟨g5, 17, none⟩) :: .slice (some ad) es.length c :: .int .i64 (es.length : Int) :: .bool false :: .bool false :: .bool false :: .pointer (some ⟨g5, 17, none⟩) :: .slice (some ad) es.length c :: .int .i64 (es.length : Int) :: .bool false :: .bool false :: .pointer (some ⟨g5, 17, none⟩) :: .slice (some ad) es.length c :: .int .i64 (es.length : Int) :: .int .i64 (j : Int) :: .bool (decide ((j : Int) < (es.length : Int))) :: .pointer (some ((ad).add (j * 2))) :: .agg ([.int .i64 x.1, .int .i64 x.2] : List Value).toArray :: .pointer (some ⟨g51, 0, none⟩) :: .int .i64 x.1 :: .int .i64 (lastK es j) :: .bool false :: .bool false :: .pointer (some ⟨g51, 0, none⟩) :: .int .i64 x.1 :: .bool false :: .bool false :: .bool false :: .pointer (some ⟨g51, 1, none⟩) :: .int .i64 x.2 :: .bool false :: .bool false :: .bool false :: .pointer (some ⟨g51, 1, none⟩) :: uq33.2.2.2.1 :: uq33.2.2.2.2.1 :: uq33.2.2.2.2.2 :: uq34.1 :: uq34.2.1 :: uq34.2.2 :: []))) _ (x_field (j := 1) _ _ rfl rfl Try.underlying62 rfl (by rfl) rfl) rfl ?_
                refine p_on rfl (by rw [hops83]; rfl) ?_
                refine p_run _ (x_load (.int .i64 x.2) rfl rfl (bkCell (HS.get (.head _)) 1 _ rfl) (by rfl)) rfl ?_
                refine p_on rfl (by rw [hops83]; rfl) ?_
                refine p_run _ (x_cmp (k := .i64) (m := x.2) (n := 239) .gtr false rfl rfl rfl (show decide _ = false from decide_eq_false h4) rfl) rfl ?_
                refine p_run _ (x_pick false (.bool true) (.bool false) (.bool false) rfl rfl rfl rfl rfl) rfl ?_
                clear hops83
                refine wpList_nil ?_
                refine hK58 _ _ ?_
                refine c_false rfl ?_
                refine wp_skip ?_
                refine hK56 _ _ ?_
                refine c_region (fun ops86 hops85 => ?_)
                clear hops85
                refine p_run _ (x_field (j := 0) _ _ rfl rfl Try.underlying62 rfl (by rfl) rfl) rfl ?_
                refine p_run _ (x_load (.int .i64 x.1) rfl rfl (bkCell (HS.get (.head _)) 0 _ rfl) (by rfl)) rfl ?_
                refine p_run _ (x_assign (.int .i64 x.1) rfl rfl) rfl ?_
                refine wpList_nil ?_
                refine hK46 _ _ ?_
                refine c_region (fun ops88 hops87 => ?_)
                clear hops87
                refine p_run _ (x_arith (k := .i64) (m := (j : Int)) (n := 1) .add (((j + 1 : Nat) : Int)) rfl rfl rfl (show IntKind.i64.wrap ((j : Int) + 1) = ((j + 1 : Nat) : Int) from ((wr64' (by omega)).trans (by omega))) rfl) rfl ?_
                refine p_run _ (x_move (.int .i64 ((j + 1 : Nat) : Int)) rfl rfl) rfl ?_
                refine wpList_nil ?_
                refine fr_at (l' := (nv8 k (nums .u8 (b.map bv)) (some ad) es.length c :: .pointer (some ⟨g5, 0, none⟩) :: uq30.1 :: .int .i64 x.1 :: undef :: .pointer (some ⟨g51, 0, none⟩) :: .pointer (some ⟨g5, 0, none⟩) :: .int .i64 k :: .bool false :: U4a8 (.pointer (some ⟨g5, 0, none⟩) :: .int .i64 k :: .bool false :: .bool false :: undef :: undef :: undef :: .bool false :: .bool false :: .pointer (some ⟨g5, 1, none⟩) :: .agg ((nums .u8 (b.map bv))).toArray :: .agg ((nums .u8 (zK.map bv))).toArray :: .bool false :: .bool false :: .bool false :: .pointer (some ⟨g5, 17, none⟩) :: .slice (some ad) es.length c :: .int .i64 (es.length : Int) :: .bool false :: .bool false :: .bool false :: .pointer (some ⟨g5, 17, none⟩) :: .slice (some ad) es.length c :: .int .i64 (es.length : Int) :: .bool false :: .bool false :: .pointer (some ⟨g5, 17, none⟩) :: .slice (some ad) es.length c :: .int .i64 (es.length : Int) :: .int .i64 ((j + 1 : Nat) : Int) :: .bool (decide ((j : Int) < (es.length : Int))) :: .pointer (some ((ad).add (j * 2))) :: .agg ([.int .i64 x.1, .int .i64 x.2] : List Value).toArray :: .pointer (some ⟨g51, 0, none⟩) :: .int .i64 x.1 :: .int .i64 (lastK es j) :: .bool false :: .bool false :: .pointer (some ⟨g51, 0, none⟩) :: .int .i64 x.1 :: .bool false :: .bool false :: .bool false :: .pointer (some ⟨g51, 1, none⟩) :: .int .i64 x.2 :: .bool false :: .bool false :: .bool false :: .pointer (some ⟨g51, 1, none⟩) :: .int .i64 x.2 :: .bool false :: .bool false :: .pointer (some ⟨g51, 0, none⟩) :: .int .i64 x.1 :: .int .i64 ((j + 1 : Nat) : Int) :: []))) rfl ?_
                refine hJ36 (j + 1, x.1) _ _ ?_ ?_
                · show es.length - (j + 1) < es.length - j; omega
                · exact ⟨(uq30.1, .pointer (some ⟨g51, 0, none⟩), .bool (decide ((j : Int) < (es.length : Int))), .pointer (some ((ad).add (j * 2))), .agg ([.int .i64 x.1, .int .i64 x.2] : List Value).toArray, .pointer (some ⟨g51, 0, none⟩)), (.int .i64 x.1, .int .i64 (lastK es j), .bool false, .bool false, .pointer (some ⟨g51, 0, none⟩), .int .i64 x.1), (.bool false, .bool false, .bool false, .pointer (some ⟨g51, 1, none⟩), .int .i64 x.2, .bool false), (.bool false, .bool false, .pointer (some ⟨g51, 1, none⟩), .int .i64 x.2, .bool false, .bool false), (.pointer (some ⟨g51, 0, none⟩), .int .i64 x.1, .int .i64 ((j + 1 : Nat) : Int)), rfl, HS.drop, ⟨(by omega), (by rw [riseK_snoc, hI.2, he]; rfl), (lastK_succ hx).symm⟩⟩
            · have hlt : j = es.length := by have := of_decide_eq_false hc44; omega
              subst hlt
              refine wp_exit ?_
              refine hK25 _ _ ?_
              refine wp_seq_k (fun K89 hK90 => ?_)
              refine c_region (fun ops92 hops91 => ?_)
              clear hops91
              refine p_run _ (x_assign (.bool true) rfl rfl) rfl ?_
              refine wpList_nil ?_
              refine hK90 _ _ ?_
              refine wp_ret ?_
              try simp only [Exit.inBlock, Exit.then]
              refine c_ret (.bool true) (r_tmp rfl rfl) ?_
              have e0 : riseB es = true := by unfold riseB; rw [hI.2]; simp; omega
              have e1 : ndOk k b es = true := by unfold ndOk; rw [if_neg hk1, if_pos (.inl hk)]; rw [e0, decide_eq_true hz, decide_eq_true (by omega : es.length ≤ 6)]; rfl
              rw [e1]
              exact ⟨rfl, HS.belowOf⟩
      · skip
        refine c_enter Try.func59 rfl 68 rfl (nv8 k (nums .u8 (b.map bv)) A es.length c :: U64a8 (undef :: undef :: undef :: [])) rfl ?_
        refine wp_seq_k (fun K1 hK2 => ?_)
        refine c_region (fun ops4 hops3 => ?_)
        clear hops3
        refine St.wBox HS (cs := (Value.int .i64 k :: ((nums .u8 (b.map bv)) ++ ([Value.slice A es.length c])))) (nv8 k (nums .u8 (b.map bv)) A es.length c) rfl rfl ?_
        clear HS
        intro g5 w6 hg7 HS
        refine p_run _ (x_assign (.bool false) rfl rfl) rfl ?_
        refine wpList_nil ?_
        refine hK2 _ _ ?_
        refine wp_seq_k (fun K8 hK9 => ?_)
        refine wp_seq_k (fun K10 hK11 => ?_)
        refine c_region (fun ops13 hops12 => ?_)
        clear hops12
        refine p_run _ (x_field (j := 0) _ _ rfl rfl Try.underlying52 rfl (by rfl) rfl) rfl ?_
        refine p_run _ (x_load (.int .i64 k) rfl rfl (bkCell (HS.get (.head _)) 0 _ rfl) (by rfl)) rfl ?_
        refine p_run _ (x_cmp (k := .i64) (m := k) (n := 1) .eql false rfl rfl rfl (cmp_not hk1) rfl) rfl ?_
        refine wpList_nil ?_
        refine hK11 _ _ ?_
        refine c_false rfl ?_
        refine wp_skip ?_
        refine hK9 _ _ ?_
        refine wp_seq_k (fun K14 hK15 => ?_)
        refine wp_seq_k (fun K16 hK17 => ?_)
        refine c_region (fun ops19 hops18 => ?_)
        refine p_run _ (x_field (j := 0) _ _ rfl rfl Try.underlying52 rfl (by rfl) rfl) rfl ?_
        refine p_run _ (x_load (.int .i64 k) rfl rfl (bkCell (HS.get (.head _)) 0 _ rfl) (by rfl)) rfl ?_
        refine p_run _ (x_cmp (k := .i64) (m := k) (n := 2) .neq false rfl rfl rfl (neq_yes' hk) rfl) rfl ?_
        refine p_run _ (x_move (.bool false) rfl rfl) rfl ?_
        refine p_off (l' := (nv8 k (nums .u8 (b.map bv)) A es.length c :: .pointer (some ⟨g5, 0, none⟩) :: .bool false :: undef :: undef :: undef :: .pointer (some ⟨g5, 0, none⟩) :: .int .i64 k :: .bool false :: U4a8 (.pointer (some ⟨g5, 0, none⟩) :: .int .i64 k :: .bool false :: .bool false :: U32a8 (U16a8 (undef :: undef :: undef :: []))))) (by rw [hops18]; rfl) rfl ?_
        refine p_off (by rw [hops18]; rfl) rfl ?_
        refine p_off (by rw [hops18]; rfl) rfl ?_
        refine p_run _ (x_pick false (undef) (.bool false) (.bool false) rfl rfl rfl rfl rfl) rfl ?_
        refine p_run _ (x_move (.bool false) rfl rfl) rfl ?_
        refine p_on rfl (by rw [hops18]; rfl) ?_
        refine p_run _ (x_field (j := 1) _ _ rfl rfl Try.underlying52 rfl (by rfl) rfl) rfl ?_
        refine p_on rfl (by rw [hops18]; rfl) ?_
        refine p_run _ (x_loads ((nums .u8 (b.map bv))) 16 rfl rfl (bkCells (HS.get (.head _)) 1 _ (by simp)) (by rfl) (by kernel_rfl) (by simp [List.length_map, hb, nums_length])) rfl ?_
        refine p_on rfl (by rw [hops18]; rfl) ?_
        refine p_run _ (x_build ((nums .u8 (zK.map bv))) rfl (by kernel_rfl)) rfl ?_
        refine p_on rfl (by rw [hops18]; rfl) ?_
        refine p_run _ (x_eq .neq (.agg ((nums .u8 (b.map bv))).toArray) (.agg ((nums .u8 (zK.map bv))).toArray) (decide ((b.map bv) = (zK.map bv))) true rfl rfl rfl (equal_nums Try.underlying49 Try.underlying5 (by kernel_rfl) (by kernel_rfl) _ _ (by simp [List.length_map, hb]) (by simp [List.length_map, zK_len])) (by rw [eq_map, decide_eq_false hz]; rfl) rfl (guard_agg (by kernel_rfl)) (guard_agg (by kernel_rfl))) rfl ?_
        refine p_run _ (x_pick false (.bool true) (.bool true) (.bool true) rfl rfl rfl rfl rfl) rfl ?_
        refine p_run (l' := (nv8 k (nums .u8 (b.map bv)) A es.length c :: .pointer (some ⟨g5, 0, none⟩) :: .bool false :: undef :: undef :: undef :: .pointer (some ⟨g5, 0, none⟩) :: .int .i64 k :: .bool false :: U4a8 (.pointer (some ⟨g5, 0, none⟩) :: .int .i64 k :: .bool false :: .bool false :: undef :: undef :: undef :: .bool false :: .bool false :: .pointer (some ⟨g5, 1, none⟩) :: .agg ((nums .u8 (b.map bv))).toArray :: .agg ((nums .u8 (zK.map bv))).toArray :: .bool true :: .bool true :: .bool true :: U32a8 (U8a8 ([]))))) _ (x_move (.bool true) rfl rfl) rfl ?_
        refine p_off (by rw [hops18]; rfl) rfl ?_
        refine p_off (by rw [hops18]; rfl) rfl ?_
        refine p_off (by rw [hops18]; rfl) rfl ?_
        refine p_off (by rw [hops18]; rfl) rfl ?_
        refine p_run _ (x_pick true (.bool true) (undef) (.bool true) rfl rfl rfl rfl rfl) rfl ?_
        refine p_run _ (x_move (.bool true) rfl rfl) rfl ?_
        refine p_off (by rw [hops18]; rfl) rfl ?_
        refine p_off (by rw [hops18]; rfl) rfl ?_
        refine p_off (by rw [hops18]; rfl) rfl ?_
        refine p_off (l' := (nv8 k (nums .u8 (b.map bv)) A es.length c :: .pointer (some ⟨g5, 0, none⟩) :: .bool false :: undef :: undef :: undef :: .pointer (some ⟨g5, 0, none⟩) :: .int .i64 k :: .bool false :: U4a8 (.pointer (some ⟨g5, 0, none⟩) :: .int .i64 k :: .bool false :: .bool false :: undef :: undef :: undef :: .bool false :: .bool false :: .pointer (some ⟨g5, 1, none⟩) :: .agg ((nums .u8 (b.map bv))).toArray :: .agg ((nums .u8 (zK.map bv))).toArray :: .bool true :: .bool true :: .bool true :: U4a8 (.bool true :: .bool true :: U32a8 (undef :: undef :: []))))) (by rw [hops18]; rfl) rfl ?_
        refine p_run _ (x_pick true (.bool true) (undef) (.bool true) rfl rfl rfl rfl rfl) rfl ?_
        clear hops18
        refine wpList_nil ?_
        refine hK17 _ _ ?_
        refine c_true rfl ?_
        refine wp_seq_k (fun K20 hK21 => ?_)
        refine c_region (fun ops23 hops22 => ?_)
        clear hops22
        refine p_run _ (x_assign (.bool false) rfl rfl) rfl ?_
        refine wpList_nil ?_
        refine hK21 _ _ ?_
        refine wp_ret ?_
        try simp only [Exit.inBlock, Exit.then]
        refine c_ret (.bool false) (r_tmp rfl rfl) ?_
        have e1 : ndOk k b es = false := by unfold ndOk; rw [if_neg hk1, if_pos (.inl hk)]; simp [hz]
        rw [e1]
        exact ⟨rfl, HS.belowOf⟩
    · skip
      have hk2 := hk
      clear hk
      by_cases hk : k = 3
      skip
      · skip
        by_cases hz : b = zK
        · skip
          rcases (by omega : es.length < 1 ∨ 6 < es.length ∨ (1 ≤ es.length ∧ es.length ≤ 6)) with hn | hn | hn
          · skip
            refine c_enter Try.func59 rfl 68 rfl (nv8 k (nums .u8 (b.map bv)) A es.length c :: U64a8 (undef :: undef :: undef :: [])) rfl ?_
            refine wp_seq_k (fun K1 hK2 => ?_)
            refine c_region (fun ops4 hops3 => ?_)
            clear hops3
            refine St.wBox HS (cs := (Value.int .i64 k :: ((nums .u8 (b.map bv)) ++ ([Value.slice A es.length c])))) (nv8 k (nums .u8 (b.map bv)) A es.length c) rfl rfl ?_
            clear HS
            intro g5 w6 hg7 HS
            refine p_run _ (x_assign (.bool false) rfl rfl) rfl ?_
            refine wpList_nil ?_
            refine hK2 _ _ ?_
            refine wp_seq_k (fun K8 hK9 => ?_)
            refine wp_seq_k (fun K10 hK11 => ?_)
            refine c_region (fun ops13 hops12 => ?_)
            clear hops12
            refine p_run _ (x_field (j := 0) _ _ rfl rfl Try.underlying52 rfl (by rfl) rfl) rfl ?_
            refine p_run _ (x_load (.int .i64 k) rfl rfl (bkCell (HS.get (.head _)) 0 _ rfl) (by rfl)) rfl ?_
            refine p_run _ (x_cmp (k := .i64) (m := k) (n := 1) .eql false rfl rfl rfl (cmp_not hk1) rfl) rfl ?_
            refine wpList_nil ?_
            refine hK11 _ _ ?_
            refine c_false rfl ?_
            refine wp_skip ?_
            refine hK9 _ _ ?_
            refine wp_seq_k (fun K14 hK15 => ?_)
            refine wp_seq_k (fun K16 hK17 => ?_)
            refine c_region (fun ops19 hops18 => ?_)
            refine p_run _ (x_field (j := 0) _ _ rfl rfl Try.underlying52 rfl (by rfl) rfl) rfl ?_
            refine p_run _ (x_load (.int .i64 k) rfl rfl (bkCell (HS.get (.head _)) 0 _ rfl) (by rfl)) rfl ?_
            refine p_run _ (x_cmp (k := .i64) (m := k) (n := 2) .neq true rfl rfl rfl (neq_no' hk2) rfl) rfl ?_
            refine p_run _ (x_move (.bool true) rfl rfl) rfl ?_
            refine p_on rfl (by rw [hops18]; rfl) ?_
            refine p_run (l' := (nv8 k (nums .u8 (b.map bv)) A es.length c :: .pointer (some ⟨g5, 0, none⟩) :: .bool false :: undef :: undef :: undef :: .pointer (some ⟨g5, 0, none⟩) :: .int .i64 k :: .bool false :: U4a8 (.pointer (some ⟨g5, 0, none⟩) :: .int .i64 k :: .bool true :: .bool true :: .pointer (some ⟨g5, 0, none⟩) :: U32a8 (U16a8 (undef :: undef :: []))))) _ (x_field (j := 0) _ _ rfl rfl Try.underlying52 rfl (by rfl) rfl) rfl ?_
            refine p_on rfl (by rw [hops18]; rfl) ?_
            refine p_run _ (x_load (.int .i64 k) rfl rfl (bkCell (HS.get (.head _)) 0 _ rfl) (by rfl)) rfl ?_
            refine p_on rfl (by rw [hops18]; rfl) ?_
            refine p_run _ (x_cmp (k := .i64) (m := k) (n := 3) .neq false rfl rfl rfl (neq_yes' hk) rfl) rfl ?_
            refine p_run _ (x_pick true (.bool false) (.bool false) (.bool false) rfl rfl rfl rfl rfl) rfl ?_
            refine p_run _ (x_move (.bool false) rfl rfl) rfl ?_
            refine p_on rfl (by rw [hops18]; rfl) ?_
            refine p_run _ (x_field (j := 1) _ _ rfl rfl Try.underlying52 rfl (by rfl) rfl) rfl ?_
            refine p_on rfl (by rw [hops18]; rfl) ?_
            refine p_run _ (x_loads ((nums .u8 (b.map bv))) 16 rfl rfl (bkCells (HS.get (.head _)) 1 _ (by simp)) (by rfl) (by kernel_rfl) (by simp [List.length_map, hb, nums_length])) rfl ?_
            refine p_on rfl (by rw [hops18]; rfl) ?_
            refine p_run _ (x_build ((nums .u8 (zK.map bv))) rfl (by kernel_rfl)) rfl ?_
            refine p_on rfl (by rw [hops18]; rfl) ?_
            refine p_run _ (x_eq .neq (.agg ((nums .u8 (b.map bv))).toArray) (.agg ((nums .u8 (zK.map bv))).toArray) (decide ((b.map bv) = (zK.map bv))) false rfl rfl rfl (equal_nums Try.underlying49 Try.underlying5 (by kernel_rfl) (by kernel_rfl) _ _ (by simp [List.length_map, hb]) (by simp [List.length_map, zK_len])) (by rw [eq_map, decide_eq_true hz]; rfl) rfl (guard_agg (by kernel_rfl)) (guard_agg (by kernel_rfl))) rfl ?_
            refine p_run _ (x_pick false (.bool true) (.bool false) (.bool false) rfl rfl rfl rfl rfl) rfl ?_
            refine p_run (l' := (nv8 k (nums .u8 (b.map bv)) A es.length c :: .pointer (some ⟨g5, 0, none⟩) :: .bool false :: undef :: undef :: undef :: .pointer (some ⟨g5, 0, none⟩) :: .int .i64 k :: .bool false :: U4a8 (.pointer (some ⟨g5, 0, none⟩) :: .int .i64 k :: .bool true :: .bool true :: .pointer (some ⟨g5, 0, none⟩) :: .int .i64 k :: .bool false :: .bool false :: .bool false :: .pointer (some ⟨g5, 1, none⟩) :: .agg ((nums .u8 (b.map bv))).toArray :: .agg ((nums .u8 (zK.map bv))).toArray :: .bool false :: .bool false :: .bool false :: U32a8 (U8a8 ([]))))) _ (x_move (.bool false) rfl rfl) rfl ?_
            refine p_on rfl (by rw [hops18]; rfl) ?_
            refine p_run _ (x_field (j := 17) _ _ rfl rfl Try.underlying52 rfl (by rfl) rfl) rfl ?_
            refine p_on rfl (by rw [hops18]; rfl) ?_
            refine p_run _ (x_load (.slice A es.length c) rfl rfl (bkCell (HS.get (.head _)) 17 _ (by simp [List.getElem?_append, List.length_map, hb, nums_length])) (by rfl)) rfl ?_
            refine p_on rfl (by rw [hops18]; rfl) ?_
            refine p_run _ (x_len rfl rfl Try.underlying50) rfl ?_
            refine p_on rfl (by rw [hops18]; rfl) ?_
            refine p_run _ (x_cmp (k := .i64) (m := (es.length : Int)) (n := 1) .lss true rfl rfl rfl (show decide ((es.length : Int) < 1) = true from decide_eq_true (by omega)) rfl) rfl ?_
            refine p_run _ (x_pick false (.bool true) (.bool true) (.bool true) rfl rfl rfl rfl rfl) rfl ?_
            refine p_run _ (x_move (.bool true) rfl rfl) rfl ?_
            refine p_off (by rw [hops18]; rfl) rfl ?_
            refine p_off (by rw [hops18]; rfl) rfl ?_
            refine p_off (by rw [hops18]; rfl) rfl ?_
            refine p_off (l' := (nv8 k (nums .u8 (b.map bv)) A es.length c :: .pointer (some ⟨g5, 0, none⟩) :: .bool false :: undef :: undef :: undef :: .pointer (some ⟨g5, 0, none⟩) :: .int .i64 k :: .bool false :: U4a8 (.pointer (some ⟨g5, 0, none⟩) :: .int .i64 k :: .bool true :: .bool true :: .pointer (some ⟨g5, 0, none⟩) :: .int .i64 k :: .bool false :: .bool false :: .bool false :: .pointer (some ⟨g5, 1, none⟩) :: .agg ((nums .u8 (b.map bv))).toArray :: .agg ((nums .u8 (zK.map bv))).toArray :: .bool false :: .bool false :: .bool false :: .pointer (some ⟨g5, 17, none⟩) :: .slice A es.length c :: .int .i64 (es.length : Int) :: .bool true :: .bool true :: .bool true :: U32a8 (undef :: undef :: [])))) (by rw [hops18]; rfl) rfl ?_
            refine p_run _ (x_pick true (.bool true) (undef) (.bool true) rfl rfl rfl rfl rfl) rfl ?_
            clear hops18
            refine wpList_nil ?_
            refine hK17 _ _ ?_
            refine c_true rfl ?_
            refine wp_seq_k (fun K20 hK21 => ?_)
            refine c_region (fun ops23 hops22 => ?_)
            clear hops22
            refine p_run _ (x_assign (.bool false) rfl rfl) rfl ?_
            refine wpList_nil ?_
            refine hK21 _ _ ?_
            refine wp_ret ?_
            try simp only [Exit.inBlock, Exit.then]
            refine c_ret (.bool false) (r_tmp rfl rfl) ?_
            have e0 : riseB es = false := by unfold riseB; simp; omega
            have e1 : ndOk k b es = false := by unfold ndOk; rw [if_neg hk1, if_pos (.inr hk)]; rw [e0]; simp
            rw [e1]
            exact ⟨rfl, HS.belowOf⟩
          · skip
            refine c_enter Try.func59 rfl 68 rfl (nv8 k (nums .u8 (b.map bv)) A es.length c :: U64a8 (undef :: undef :: undef :: [])) rfl ?_
            refine wp_seq_k (fun K1 hK2 => ?_)
            refine c_region (fun ops4 hops3 => ?_)
            clear hops3
            refine St.wBox HS (cs := (Value.int .i64 k :: ((nums .u8 (b.map bv)) ++ ([Value.slice A es.length c])))) (nv8 k (nums .u8 (b.map bv)) A es.length c) rfl rfl ?_
            clear HS
            intro g5 w6 hg7 HS
            refine p_run _ (x_assign (.bool false) rfl rfl) rfl ?_
            refine wpList_nil ?_
            refine hK2 _ _ ?_
            refine wp_seq_k (fun K8 hK9 => ?_)
            refine wp_seq_k (fun K10 hK11 => ?_)
            refine c_region (fun ops13 hops12 => ?_)
            clear hops12
            refine p_run _ (x_field (j := 0) _ _ rfl rfl Try.underlying52 rfl (by rfl) rfl) rfl ?_
            refine p_run _ (x_load (.int .i64 k) rfl rfl (bkCell (HS.get (.head _)) 0 _ rfl) (by rfl)) rfl ?_
            refine p_run _ (x_cmp (k := .i64) (m := k) (n := 1) .eql false rfl rfl rfl (cmp_not hk1) rfl) rfl ?_
            refine wpList_nil ?_
            refine hK11 _ _ ?_
            refine c_false rfl ?_
            refine wp_skip ?_
            refine hK9 _ _ ?_
            refine wp_seq_k (fun K14 hK15 => ?_)
            refine wp_seq_k (fun K16 hK17 => ?_)
            refine c_region (fun ops19 hops18 => ?_)
            refine p_run _ (x_field (j := 0) _ _ rfl rfl Try.underlying52 rfl (by rfl) rfl) rfl ?_
            refine p_run _ (x_load (.int .i64 k) rfl rfl (bkCell (HS.get (.head _)) 0 _ rfl) (by rfl)) rfl ?_
            refine p_run _ (x_cmp (k := .i64) (m := k) (n := 2) .neq true rfl rfl rfl (neq_no' hk2) rfl) rfl ?_
            refine p_run _ (x_move (.bool true) rfl rfl) rfl ?_
            refine p_on rfl (by rw [hops18]; rfl) ?_
            refine p_run (l' := (nv8 k (nums .u8 (b.map bv)) A es.length c :: .pointer (some ⟨g5, 0, none⟩) :: .bool false :: undef :: undef :: undef :: .pointer (some ⟨g5, 0, none⟩) :: .int .i64 k :: .bool false :: U4a8 (.pointer (some ⟨g5, 0, none⟩) :: .int .i64 k :: .bool true :: .bool true :: .pointer (some ⟨g5, 0, none⟩) :: U32a8 (U16a8 (undef :: undef :: []))))) _ (x_field (j := 0) _ _ rfl rfl Try.underlying52 rfl (by rfl) rfl) rfl ?_
            refine p_on rfl (by rw [hops18]; rfl) ?_
            refine p_run _ (x_load (.int .i64 k) rfl rfl (bkCell (HS.get (.head _)) 0 _ rfl) (by rfl)) rfl ?_
            refine p_on rfl (by rw [hops18]; rfl) ?_
            refine p_run _ (x_cmp (k := .i64) (m := k) (n := 3) .neq false rfl rfl rfl (neq_yes' hk) rfl) rfl ?_
            refine p_run _ (x_pick true (.bool false) (.bool false) (.bool false) rfl rfl rfl rfl rfl) rfl ?_
            refine p_run _ (x_move (.bool false) rfl rfl) rfl ?_
            refine p_on rfl (by rw [hops18]; rfl) ?_
            refine p_run _ (x_field (j := 1) _ _ rfl rfl Try.underlying52 rfl (by rfl) rfl) rfl ?_
            refine p_on rfl (by rw [hops18]; rfl) ?_
            refine p_run _ (x_loads ((nums .u8 (b.map bv))) 16 rfl rfl (bkCells (HS.get (.head _)) 1 _ (by simp)) (by rfl) (by kernel_rfl) (by simp [List.length_map, hb, nums_length])) rfl ?_
            refine p_on rfl (by rw [hops18]; rfl) ?_
            refine p_run _ (x_build ((nums .u8 (zK.map bv))) rfl (by kernel_rfl)) rfl ?_
            refine p_on rfl (by rw [hops18]; rfl) ?_
            refine p_run _ (x_eq .neq (.agg ((nums .u8 (b.map bv))).toArray) (.agg ((nums .u8 (zK.map bv))).toArray) (decide ((b.map bv) = (zK.map bv))) false rfl rfl rfl (equal_nums Try.underlying49 Try.underlying5 (by kernel_rfl) (by kernel_rfl) _ _ (by simp [List.length_map, hb]) (by simp [List.length_map, zK_len])) (by rw [eq_map, decide_eq_true hz]; rfl) rfl (guard_agg (by kernel_rfl)) (guard_agg (by kernel_rfl))) rfl ?_
            refine p_run _ (x_pick false (.bool true) (.bool false) (.bool false) rfl rfl rfl rfl rfl) rfl ?_
            refine p_run (l' := (nv8 k (nums .u8 (b.map bv)) A es.length c :: .pointer (some ⟨g5, 0, none⟩) :: .bool false :: undef :: undef :: undef :: .pointer (some ⟨g5, 0, none⟩) :: .int .i64 k :: .bool false :: U4a8 (.pointer (some ⟨g5, 0, none⟩) :: .int .i64 k :: .bool true :: .bool true :: .pointer (some ⟨g5, 0, none⟩) :: .int .i64 k :: .bool false :: .bool false :: .bool false :: .pointer (some ⟨g5, 1, none⟩) :: .agg ((nums .u8 (b.map bv))).toArray :: .agg ((nums .u8 (zK.map bv))).toArray :: .bool false :: .bool false :: .bool false :: U32a8 (U8a8 ([]))))) _ (x_move (.bool false) rfl rfl) rfl ?_
            refine p_on rfl (by rw [hops18]; rfl) ?_
            refine p_run _ (x_field (j := 17) _ _ rfl rfl Try.underlying52 rfl (by rfl) rfl) rfl ?_
            refine p_on rfl (by rw [hops18]; rfl) ?_
            refine p_run _ (x_load (.slice A es.length c) rfl rfl (bkCell (HS.get (.head _)) 17 _ (by simp [List.getElem?_append, List.length_map, hb, nums_length])) (by rfl)) rfl ?_
            refine p_on rfl (by rw [hops18]; rfl) ?_
            refine p_run _ (x_len rfl rfl Try.underlying50) rfl ?_
            refine p_on rfl (by rw [hops18]; rfl) ?_
            refine p_run _ (x_cmp (k := .i64) (m := (es.length : Int)) (n := 1) .lss false rfl rfl rfl (show decide ((es.length : Int) < 1) = false from decide_eq_false (by omega)) rfl) rfl ?_
            refine p_run _ (x_pick false (.bool true) (.bool false) (.bool false) rfl rfl rfl rfl rfl) rfl ?_
            refine p_run _ (x_move (.bool false) rfl rfl) rfl ?_
            refine p_on rfl (by rw [hops18]; rfl) ?_
            refine p_run _ (x_field (j := 17) _ _ rfl rfl Try.underlying52 rfl (by rfl) rfl) rfl ?_
            refine p_on rfl (by rw [hops18]; rfl) ?_
            refine p_run _ (x_load (.slice A es.length c) rfl rfl (bkCell (HS.get (.head _)) 17 _ (by simp [List.getElem?_append, List.length_map, hb, nums_length])) (by rfl)) rfl ?_
            refine p_on rfl (by rw [hops18]; rfl) ?_
            refine p_run _ (x_len rfl rfl Try.underlying50) rfl ?_
            refine p_on rfl (by rw [hops18]; rfl) ?_
            refine p_run (l' := (nv8 k (nums .u8 (b.map bv)) A es.length c :: .pointer (some ⟨g5, 0, none⟩) :: .bool false :: undef :: undef :: undef :: .pointer (some ⟨g5, 0, none⟩) :: .int .i64 k :: .bool false :: U4a8 (.pointer (some ⟨g5, 0, none⟩) :: .int .i64 k :: .bool true :: .bool true :: .pointer (some ⟨g5, 0, none⟩) :: .int .i64 k :: .bool false :: .bool false :: .bool false :: .pointer (some ⟨g5, 1, none⟩) :: .agg ((nums .u8 (b.map bv))).toArray :: .agg ((nums .u8 (zK.map bv))).toArray :: .bool false :: .bool false :: .bool false :: .pointer (some ⟨g5, 17, none⟩) :: .slice A es.length c :: .int .i64 (es.length : Int) :: .bool false :: .bool false :: .bool false :: .pointer (some ⟨g5, 17, none⟩) :: .slice A es.length c :: .int .i64 (es.length : Int) :: .bool true :: U16a8 (U8a8 (U4a8 (undef :: undef :: [])))))) _ (x_cmp (k := .i64) (m := (es.length : Int)) (n := 6) .gtr true rfl rfl rfl (show decide ((es.length : Int) > 6) = true from decide_eq_true (by omega)) rfl) rfl ?_
            refine p_run _ (x_pick false (.bool true) (.bool true) (.bool true) rfl rfl rfl rfl rfl) rfl ?_
            clear hops18
            refine wpList_nil ?_
            refine hK17 _ _ ?_
            refine c_true rfl ?_
            refine wp_seq_k (fun K20 hK21 => ?_)
            refine c_region (fun ops23 hops22 => ?_)
            clear hops22
            refine p_run _ (x_assign (.bool false) rfl rfl) rfl ?_
            refine wpList_nil ?_
            refine hK21 _ _ ?_
            refine wp_ret ?_
            try simp only [Exit.inBlock, Exit.then]
            refine c_ret (.bool false) (r_tmp rfl rfl) ?_
            have e1 : ndOk k b es = false := by unfold ndOk; rw [if_neg hk1, if_pos (.inr hk)]; rw [decide_eq_false (by omega : ¬ es.length ≤ 6)]; simp
            rw [e1]
            exact ⟨rfl, HS.belowOf⟩
          · skip
            refine c_enter Try.func59 rfl 68 rfl (nv8 k (nums .u8 (b.map bv)) A es.length c :: U64a8 (undef :: undef :: undef :: [])) rfl ?_
            refine wp_seq_k (fun K1 hK2 => ?_)
            refine c_region (fun ops4 hops3 => ?_)
            clear hops3
            refine St.wBox HS (cs := (Value.int .i64 k :: ((nums .u8 (b.map bv)) ++ ([Value.slice A es.length c])))) (nv8 k (nums .u8 (b.map bv)) A es.length c) rfl rfl ?_
            clear HS
            intro g5 w6 hg7 HS
            refine p_run _ (x_assign (.bool false) rfl rfl) rfl ?_
            refine wpList_nil ?_
            refine hK2 _ _ ?_
            refine wp_seq_k (fun K8 hK9 => ?_)
            refine wp_seq_k (fun K10 hK11 => ?_)
            refine c_region (fun ops13 hops12 => ?_)
            clear hops12
            refine p_run _ (x_field (j := 0) _ _ rfl rfl Try.underlying52 rfl (by rfl) rfl) rfl ?_
            refine p_run _ (x_load (.int .i64 k) rfl rfl (bkCell (HS.get (.head _)) 0 _ rfl) (by rfl)) rfl ?_
            refine p_run _ (x_cmp (k := .i64) (m := k) (n := 1) .eql false rfl rfl rfl (cmp_not hk1) rfl) rfl ?_
            refine wpList_nil ?_
            refine hK11 _ _ ?_
            refine c_false rfl ?_
            refine wp_skip ?_
            refine hK9 _ _ ?_
            refine wp_seq_k (fun K14 hK15 => ?_)
            refine wp_seq_k (fun K16 hK17 => ?_)
            refine c_region (fun ops19 hops18 => ?_)
            refine p_run _ (x_field (j := 0) _ _ rfl rfl Try.underlying52 rfl (by rfl) rfl) rfl ?_
            refine p_run _ (x_load (.int .i64 k) rfl rfl (bkCell (HS.get (.head _)) 0 _ rfl) (by rfl)) rfl ?_
            refine p_run _ (x_cmp (k := .i64) (m := k) (n := 2) .neq true rfl rfl rfl (neq_no' hk2) rfl) rfl ?_
            refine p_run _ (x_move (.bool true) rfl rfl) rfl ?_
            refine p_on rfl (by rw [hops18]; rfl) ?_
            refine p_run (l' := (nv8 k (nums .u8 (b.map bv)) A es.length c :: .pointer (some ⟨g5, 0, none⟩) :: .bool false :: undef :: undef :: undef :: .pointer (some ⟨g5, 0, none⟩) :: .int .i64 k :: .bool false :: U4a8 (.pointer (some ⟨g5, 0, none⟩) :: .int .i64 k :: .bool true :: .bool true :: .pointer (some ⟨g5, 0, none⟩) :: U32a8 (U16a8 (undef :: undef :: []))))) _ (x_field (j := 0) _ _ rfl rfl Try.underlying52 rfl (by rfl) rfl) rfl ?_
            refine p_on rfl (by rw [hops18]; rfl) ?_
            refine p_run _ (x_load (.int .i64 k) rfl rfl (bkCell (HS.get (.head _)) 0 _ rfl) (by rfl)) rfl ?_
            refine p_on rfl (by rw [hops18]; rfl) ?_
            refine p_run _ (x_cmp (k := .i64) (m := k) (n := 3) .neq false rfl rfl rfl (neq_yes' hk) rfl) rfl ?_
            refine p_run _ (x_pick true (.bool false) (.bool false) (.bool false) rfl rfl rfl rfl rfl) rfl ?_
            refine p_run _ (x_move (.bool false) rfl rfl) rfl ?_
            refine p_on rfl (by rw [hops18]; rfl) ?_
            refine p_run _ (x_field (j := 1) _ _ rfl rfl Try.underlying52 rfl (by rfl) rfl) rfl ?_
            refine p_on rfl (by rw [hops18]; rfl) ?_
            refine p_run _ (x_loads ((nums .u8 (b.map bv))) 16 rfl rfl (bkCells (HS.get (.head _)) 1 _ (by simp)) (by rfl) (by kernel_rfl) (by simp [List.length_map, hb, nums_length])) rfl ?_
            refine p_on rfl (by rw [hops18]; rfl) ?_
            refine p_run _ (x_build ((nums .u8 (zK.map bv))) rfl (by kernel_rfl)) rfl ?_
            refine p_on rfl (by rw [hops18]; rfl) ?_
            refine p_run _ (x_eq .neq (.agg ((nums .u8 (b.map bv))).toArray) (.agg ((nums .u8 (zK.map bv))).toArray) (decide ((b.map bv) = (zK.map bv))) false rfl rfl rfl (equal_nums Try.underlying49 Try.underlying5 (by kernel_rfl) (by kernel_rfl) _ _ (by simp [List.length_map, hb]) (by simp [List.length_map, zK_len])) (by rw [eq_map, decide_eq_true hz]; rfl) rfl (guard_agg (by kernel_rfl)) (guard_agg (by kernel_rfl))) rfl ?_
            refine p_run _ (x_pick false (.bool true) (.bool false) (.bool false) rfl rfl rfl rfl rfl) rfl ?_
            refine p_run (l' := (nv8 k (nums .u8 (b.map bv)) A es.length c :: .pointer (some ⟨g5, 0, none⟩) :: .bool false :: undef :: undef :: undef :: .pointer (some ⟨g5, 0, none⟩) :: .int .i64 k :: .bool false :: U4a8 (.pointer (some ⟨g5, 0, none⟩) :: .int .i64 k :: .bool true :: .bool true :: .pointer (some ⟨g5, 0, none⟩) :: .int .i64 k :: .bool false :: .bool false :: .bool false :: .pointer (some ⟨g5, 1, none⟩) :: .agg ((nums .u8 (b.map bv))).toArray :: .agg ((nums .u8 (zK.map bv))).toArray :: .bool false :: .bool false :: .bool false :: U32a8 (U8a8 ([]))))) _ (x_move (.bool false) rfl rfl) rfl ?_
            refine p_on rfl (by rw [hops18]; rfl) ?_
            refine p_run _ (x_field (j := 17) _ _ rfl rfl Try.underlying52 rfl (by rfl) rfl) rfl ?_
            refine p_on rfl (by rw [hops18]; rfl) ?_
            refine p_run _ (x_load (.slice A es.length c) rfl rfl (bkCell (HS.get (.head _)) 17 _ (by simp [List.getElem?_append, List.length_map, hb, nums_length])) (by rfl)) rfl ?_
            refine p_on rfl (by rw [hops18]; rfl) ?_
            refine p_run _ (x_len rfl rfl Try.underlying50) rfl ?_
            refine p_on rfl (by rw [hops18]; rfl) ?_
            refine p_run _ (x_cmp (k := .i64) (m := (es.length : Int)) (n := 1) .lss false rfl rfl rfl (show decide ((es.length : Int) < 1) = false from decide_eq_false (by omega)) rfl) rfl ?_
            refine p_run _ (x_pick false (.bool true) (.bool false) (.bool false) rfl rfl rfl rfl rfl) rfl ?_
            refine p_run _ (x_move (.bool false) rfl rfl) rfl ?_
            refine p_on rfl (by rw [hops18]; rfl) ?_
            refine p_run _ (x_field (j := 17) _ _ rfl rfl Try.underlying52 rfl (by rfl) rfl) rfl ?_
            refine p_on rfl (by rw [hops18]; rfl) ?_
            refine p_run _ (x_load (.slice A es.length c) rfl rfl (bkCell (HS.get (.head _)) 17 _ (by simp [List.getElem?_append, List.length_map, hb, nums_length])) (by rfl)) rfl ?_
            refine p_on rfl (by rw [hops18]; rfl) ?_
            refine p_run _ (x_len rfl rfl Try.underlying50) rfl ?_
            refine p_on rfl (by rw [hops18]; rfl) ?_
            refine p_run (l' := (nv8 k (nums .u8 (b.map bv)) A es.length c :: .pointer (some ⟨g5, 0, none⟩) :: .bool false :: undef :: undef :: undef :: .pointer (some ⟨g5, 0, none⟩) :: .int .i64 k :: .bool false :: U4a8 (.pointer (some ⟨g5, 0, none⟩) :: .int .i64 k :: .bool true :: .bool true :: .pointer (some ⟨g5, 0, none⟩) :: .int .i64 k :: .bool false :: .bool false :: .bool false :: .pointer (some ⟨g5, 1, none⟩) :: .agg ((nums .u8 (b.map bv))).toArray :: .agg ((nums .u8 (zK.map bv))).toArray :: .bool false :: .bool false :: .bool false :: .pointer (some ⟨g5, 17, none⟩) :: .slice A es.length c :: .int .i64 (es.length : Int) :: .bool false :: .bool false :: .bool false :: .pointer (some ⟨g5, 17, none⟩) :: .slice A es.length c :: .int .i64 (es.length : Int) :: .bool false :: U16a8 (U8a8 (U4a8 (undef :: undef :: [])))))) _ (x_cmp (k := .i64) (m := (es.length : Int)) (n := 6) .gtr false rfl rfl rfl (show decide ((es.length : Int) > 6) = false from decide_eq_false (by omega)) rfl) rfl ?_
            refine p_run _ (x_pick false (.bool true) (.bool false) (.bool false) rfl rfl rfl rfl rfl) rfl ?_
            clear hops18
            refine wpList_nil ?_
            refine hK17 _ _ ?_
            refine c_false rfl ?_
            refine wp_skip ?_
            refine hK15 _ _ ?_
            refine wp_seq_k (fun K20 hK21 => ?_)
            refine c_region (fun ops23 hops22 => ?_)
            clear hops22
            refine p_run _ (x_assign (.int .i64 (-1)) rfl rfl) rfl ?_
            refine wpList_nil ?_
            refine hK21 _ _ ?_
            refine wp_seq_k (fun K24 hK25 => ?_)
            refine wp_seq_k (fun K26 hK27 => ?_)
            refine c_region (fun ops29 hops28 => ?_)
            clear hops28
            refine p_run _ (x_field (j := 17) _ _ rfl rfl Try.underlying52 rfl (by rfl) rfl) rfl ?_
            refine p_run _ (x_load (.slice A es.length c) rfl rfl (bkCell (HS.get (.head _)) 17 _ (by simp [List.getElem?_append, List.length_map, hb, nums_length])) (by rfl)) rfl ?_
            refine p_run _ (x_len rfl rfl Try.underlying50) rfl ?_
            refine p_run _ (x_move (.int .i64 0) rfl rfl) rfl ?_
            refine wpList_nil ?_
            refine fr_at (l' := (nv8 k (nums .u8 (b.map bv)) A es.length c :: .pointer (some ⟨g5, 0, none⟩) :: .bool false :: .int .i64 (-1) :: undef :: undef :: .pointer (some ⟨g5, 0, none⟩) :: .int .i64 k :: .bool false :: U4a8 (.pointer (some ⟨g5, 0, none⟩) :: .int .i64 k :: .bool true :: .bool true :: .pointer (some ⟨g5, 0, none⟩) :: .int .i64 k :: .bool false :: .bool false :: .bool false :: .pointer (some ⟨g5, 1, none⟩) :: .agg ((nums .u8 (b.map bv))).toArray :: .agg ((nums .u8 (zK.map bv))).toArray :: .bool false :: .bool false :: .bool false :: .pointer (some ⟨g5, 17, none⟩) :: .slice A es.length c :: .int .i64 (es.length : Int) :: .bool false :: .bool false :: .bool false :: .pointer (some ⟨g5, 17, none⟩) :: .slice A es.length c :: .int .i64 (es.length : Int) :: .bool false :: .bool false :: .pointer (some ⟨g5, 17, none⟩) :: .slice A es.length c :: .int .i64 (es.length : Int) :: .int .i64 0 :: U16a8 (U8a8 (undef :: []))))) rfl ?_
            refine hK27 _ _ ?_
            refine wp_block ?_
            refine c_loop (ι := Nat × Int) (fun i_ a_ w_ => match i_ with | (j, lk_) => ∃ (uq30 : Value × Value × Value × Value × Value × Value) (uq31 : Value × Value × Value × Value × Value × Value) (uq32 : Value × Value × Value × Value × Value × Value) (uq33 : Value × Value × Value × Value × Value × Value) (uq34 : Value × Value × Value), a_ = fr (nv8 k (nums .u8 (b.map bv)) A es.length c :: .pointer (some ⟨g5, 0, none⟩) :: uq30.1 :: .int .i64 lk_ :: undef :: uq30.2.1 :: .pointer (some ⟨g5, 0, none⟩) :: .int .i64 k :: .bool false :: U4a8 (.pointer (some ⟨g5, 0, none⟩) :: .int .i64 k :: .bool true :: .bool true :: .pointer (some ⟨g5, 0, none⟩) :: .int .i64 k :: .bool false :: .bool false :: .bool false :: .pointer (some ⟨g5, 1, none⟩) :: .agg ((nums .u8 (b.map bv))).toArray :: .agg ((nums .u8 (zK.map bv))).toArray :: .bool false :: .bool false :: .bool false :: .pointer (some ⟨g5, 17, none⟩) :: .slice A es.length c :: .int .i64 (es.length : Int) :: .bool false :: .bool false :: .bool false :: .pointer (some ⟨g5, 17, none⟩) :: .slice A es.length c :: .int .i64 (es.length : Int) :: .bool false :: .bool false :: .pointer (some ⟨g5, 17, none⟩) :: .slice A es.length c :: .int .i64 (es.length : Int) :: .int .i64 (j : Int) :: uq30.2.2.1 :: uq30.2.2.2.1 :: uq30.2.2.2.2.1 :: uq30.2.2.2.2.2 :: uq31.1 :: uq31.2.1 :: uq31.2.2.1 :: uq31.2.2.2.1 :: uq31.2.2.2.2.1 :: uq31.2.2.2.2.2 :: uq32.1 :: uq32.2.1 :: uq32.2.2.1 :: uq32.2.2.2.1 :: uq32.2.2.2.2.1 :: uq32.2.2.2.2.2 :: uq33.1 :: uq33.2.1 :: uq33.2.2.1 :: uq33.2.2.2.1 :: uq33.2.2.2.2.1 :: uq33.2.2.2.2.2 :: uq34.1 :: uq34.2.1 :: uq34.2.2 :: [])) ∧ St w (fun _ => False) w_ ([blk g5 (Value.int .i64 k :: ((nums .u8 (b.map bv)) ++ ([Value.slice A es.length c]))) 52]) ∧ (j ≤ es.length ∧ riseK es j = true ∧ lk_ = lastK es j)) (fun i_ => match i_ with | (j, lk_) => es.length - j) (0, -1) ?_ ?_
            · exact ⟨(.bool false, undef, undef, undef, undef, undef), (undef, undef, undef, undef, undef, undef), (undef, undef, undef, undef, undef, undef), (undef, undef, undef, undef, undef, undef), (undef, undef, undef), rfl, HS, ⟨by omega, rfl, rfl⟩⟩
            · clear HS
              rintro ⟨j, lk_⟩ a_ w37 ⟨uq30, uq31, uq32, uq33, uq34, rfl, HS, hI⟩ J35 hJ36
              obtain ⟨hjl, hI2, hlk⟩ := hI
              subst hlk
              have hI := And.intro hjl hI2
              refine wp_seq_k (fun K38 hK39 => ?_)
              refine c_region (fun ops41 hops40 => ?_)
              clear hops40
              refine p_run _ (x_cmp (k := .i64) (m := (j : Int)) (n := (es.length : Int)) .lss (decide ((j : Int) < (es.length : Int))) rfl rfl rfl rfl rfl) rfl ?_
              refine wpList_nil ?_
              refine hK39 _ _ ?_
              refine wp_seq_k (fun K42 hK43 => ?_)
              refine c_cond (t := decide ((j : Int) < (es.length : Int))) rfl (fun hc44 => ?_) (fun hc44 => ?_)
              · have hlt : j < es.length := by have := of_decide_eq_true hc44; omega
                obtain ⟨ad, x, rfl, hx, hcell⟩ := en_get (Kd.C_below hr HS.belowOf) j hlt
                refine wp_skip ?_
                refine hK43 _ _ ?_
                refine wp_seq_k (fun K45 hK46 => ?_)
                refine wp_block ?_
                refine wp_seq_k (fun K47 hK48 => ?_)
                refine c_region (fun ops50 hops49 => ?_)
                clear hops49
                refine p_run _ (x_index (A := ad) (j := j * 2) (sz := 2) rfl rfl rfl Try.underlying50 (by kernel_rfl) (by omega) rfl) rfl ?_
                refine p_run _ (x_loads [.int .i64 x.1, .int .i64 x.2] 2 rfl rfl hcell (by rfl) (by kernel_rfl) rfl) rfl ?_
                refine St.wAlloc HS (cs := [.int .i64 0, .int .i64 0]) (.agg [.int .i64 0, .int .i64 0].toArray) (by kernel_rfl) rfl ?_
                clear HS
                intro g51 w52 hg53 HS
                refine St.stores (cs' := [.int .i64 x.1, .int .i64 x.2]) HS [.int .i64 x.1, .int .i64 x.2] 2 rfl rfl (by rfl) (by kernel_rfl) rfl (by simp) rfl ?_
                clear HS
                intro w54 HS
                refine wpList_nil ?_
                refine hK48 _ _ ?_
                refine wp_seq_k (fun K55 hK56 => ?_)
                refine wp_seq_k (fun K57 hK58 => ?_)
                rcases rr_in hx hI.2 with ⟨he, h1⟩ | ⟨he, h1, h2⟩ | ⟨he, h1, h2, h3⟩ | ⟨he, h1, h2, h3, h4⟩ | ⟨he, h1, h2, h3, h4⟩
                · skip
                  refine c_region (fun ops60 hops59 => ?_)
                  refine p_run _ (x_field (j := 0) _ _ rfl rfl Try.underlying62 rfl (by rfl) rfl) rfl ?_
                  refine p_run _ (x_load (.int .i64 x.1) rfl rfl (bkCell (HS.get (.head _)) 0 _ rfl) (by rfl)) rfl ?_
                  refine p_run _ (x_move (.int .i64 (lastK es j)) rfl rfl) rfl ?_
                  refine p_run _ (x_cmp (k := .i64) (m := x.1) (n := (lastK es j)) .leq true rfl rfl rfl (show decide _ = true from decide_eq_true h1) rfl) rfl ?_
                  refine p_run _ (x_move (.bool true) rfl rfl) rfl ?_
                  refine p_off (l' := (nv8 k (nums .u8 (b.map bv)) (some ad) es.length c :: .pointer (some ⟨g5, 0, none⟩) :: uq30.1 :: .int .i64 (lastK es j) :: undef :: .pointer (some ⟨g51, 0, none⟩) :: .pointer (some ⟨g5, 0, none⟩) :: .int .i64 k :: .bool false :: U4a8 (.pointer (some ⟨g5, 0, none⟩) :: .int .i64 k :: .bool true :: .bool true :: .pointer (some ⟨g5, 0, none⟩) :: .int .i64 k :: .bool false :: .bool false :: .bool false :: .pointer (some ⟨g5, 1, none⟩) :: .agg ((nums .u8 (b.map bv))).toArray :: .agg ((nums .u8 (zK.map bv))).toArray :: .bool false :: .bool false :: .bool false :: .pointer (some ⟨g5, 17, none⟩) :: .slice (some ad) es.length c :: .int .i64 (es.length : Int) :: .bool false :: .bool false :: .bool false :: .pointer (some ⟨g5, 17, none⟩) :: .slice (some ad) es.length c :: .int .i64 (es.length : Int) :: .bool false :: .bool false :: .pointer (some ⟨g5, 17, none⟩) :: .slice (some ad) es.length c :: .int .i64 (es.length : Int) :: .int .i64 (j : Int) :: .bool (decide ((j : Int) < (es.length : Int))) :: .pointer (some ((ad).add (j * 2))) :: .agg ([.int .i64 x.1, .int .i64 x.2] : List Value).toArray :: .pointer (some ⟨g51, 0, none⟩) :: .int .i64 x.1 :: .int .i64 (lastK es j) :: .bool true :: .bool true :: undef :: uq31.2.2.2.2.2 :: uq32.1 :: uq32.2.1 :: uq32.2.2.1 :: uq32.2.2.2.1 :: uq32.2.2.2.2.1 :: uq32.2.2.2.2.2 :: uq33.1 :: uq33.2.1 :: uq33.2.2.1 :: uq33.2.2.2.1 :: uq33.2.2.2.2.1 :: uq33.2.2.2.2.2 :: uq34.1 :: uq34.2.1 :: uq34.2.2 :: []))) (by rw [hops59]; rfl) rfl ?_
                  refine p_off (by rw [hops59]; rfl) rfl ?_
                  refine p_off (by rw [hops59]; rfl) rfl ?_
                  refine p_run _ (x_pick true (.bool true) (undef) (.bool true) rfl rfl rfl rfl rfl) rfl ?_
                  refine p_run _ (x_move (.bool true) rfl rfl) rfl ?_
                  refine p_off (by rw [hops59]; rfl) rfl ?_
                  refine p_off (by rw [hops59]; rfl) rfl ?_
                  refine p_off (by rw [hops59]; rfl) rfl ?_
                  refine p_run _ (x_pick true (.bool true) (undef) (.bool true) rfl rfl rfl rfl rfl) rfl ?_
                  refine p_run _ (x_move (.bool true) rfl rfl) rfl ?_
                  refine p_off (l' := (nv8 k (nums .u8 (b.map bv)) (some ad) es.length c :: .pointer (some ⟨g5, 0, none⟩) :: uq30.1 :: .int .i64 (lastK es j) :: undef :: .pointer (some ⟨g51, 0, none⟩) :: .pointer (some ⟨g5, 0, none⟩) :: .int .i64 k :: .bool false :: U4a8 (.pointer (some ⟨g5, 0, none⟩) :: .int .i64 k :: .bool true :: .bool true :: .pointer (some ⟨g5, 0, none⟩) :: .int .i64 k :: .bool false :: .bool false :: .bool false :: .pointer (some ⟨g5, 1, none⟩) :: .agg ((nums .u8 (b.map bv))).toArray :: .agg ((nums .u8 (zK.map bv))).toArray :: .bool false :: .bool false :: .bool false :: .pointer (some ⟨g5, 17, none⟩) :: .slice (some ad) es.length c :: .int .i64 (es.length : Int) :: .bool false :: .bool false :: .bool false :: .pointer (some ⟨g5, 17, none⟩) :: .slice (some ad) es.length c :: .int .i64 (es.length : Int) :: .bool false :: .bool false :: .pointer (some ⟨g5, 17, none⟩) :: .slice (some ad) es.length c :: .int .i64 (es.length : Int) :: .int .i64 (j : Int) :: .bool (decide ((j : Int) < (es.length : Int))) :: .pointer (some ((ad).add (j * 2))) :: .agg ([.int .i64 x.1, .int .i64 x.2] : List Value).toArray :: .pointer (some ⟨g51, 0, none⟩) :: .int .i64 x.1 :: .int .i64 (lastK es j) :: .bool true :: .bool true :: undef :: undef :: undef :: .bool true :: .bool true :: undef :: undef :: undef :: .bool true :: .bool true :: undef :: uq33.2.2.2.1 :: uq33.2.2.2.2.1 :: uq33.2.2.2.2.2 :: uq34.1 :: uq34.2.1 :: uq34.2.2 :: []))) (by rw [hops59]; rfl) rfl ?_
                  refine p_off (by rw [hops59]; rfl) rfl ?_
                  refine p_off (by rw [hops59]; rfl) rfl ?_
                  refine p_run _ (x_pick true (.bool true) (undef) (.bool true) rfl rfl rfl rfl rfl) rfl ?_
                  clear hops59
                  refine wpList_nil ?_
                  refine hK58 _ _ ?_
                  refine c_true rfl ?_
                  refine wp_seq_k (fun K61 hK62 => ?_)
                  refine c_region (fun ops64 hops63 => ?_)
                  clear hops63
                  refine p_run _ (x_assign (.bool false) rfl rfl) rfl ?_
                  refine wpList_nil ?_
                  refine hK62 _ _ ?_
                  refine wp_ret ?_
                  try simp only [Exit.inBlock, Exit.then]
                  refine c_ret (.bool false) (r_tmp rfl rfl) ?_
                  have e1 : ndOk k b es = false := by unfold ndOk; rw [if_neg hk1, if_pos (.inr hk)]; rw [rise_no hlt he]; simp
                  rw [e1]
                  exact ⟨rfl, HS.belowOf⟩
                · skip
                  refine c_region (fun ops66 hops65 => ?_)
                  refine p_run _ (x_field (j := 0) _ _ rfl rfl Try.underlying62 rfl (by rfl) rfl) rfl ?_
                  refine p_run _ (x_load (.int .i64 x.1) rfl rfl (bkCell (HS.get (.head _)) 0 _ rfl) (by rfl)) rfl ?_
                  refine p_run _ (x_move (.int .i64 (lastK es j)) rfl rfl) rfl ?_
                  refine p_run _ (x_cmp (k := .i64) (m := x.1) (n := (lastK es j)) .leq false rfl rfl rfl (show decide _ = false from decide_eq_false h1) rfl) rfl ?_
                  refine p_run _ (x_move (.bool false) rfl rfl) rfl ?_
                  refine p_on rfl (by rw [hops65]; rfl) ?_
                  refine p_run (l' := (nv8 k (nums .u8 (b.map bv)) (some ad) es.length c :: .pointer (some ⟨g5, 0, none⟩) :: uq30.1 :: .int .i64 (lastK es j) :: undef :: .pointer (some ⟨g51, 0, none⟩) :: .pointer (some ⟨g5, 0, none⟩) :: .int .i64 k :: .bool false :: U4a8 (.pointer (some ⟨g5, 0, none⟩) :: .int .i64 k :: .bool true :: .bool true :: .pointer (some ⟨g5, 0, none⟩) :: .int .i64 k :: .bool false :: .bool false :: .bool false :: .pointer (some ⟨g5, 1, none⟩) :: .agg ((nums .u8 (b.map bv))).toArray :: .agg ((nums .u8 (zK.map bv))).toArray :: .bool false :: .bool false :: .bool false :: .pointer (some ⟨g5, 17, none⟩) :: .slice (some ad) es.length c :: .int .i64 (es.length : Int) :: .bool false :: .bool false :: .bool false :: .pointer (some ⟨g5, 17, none⟩) :: .slice (some ad) es.length c :: .int .i64 (es.length : Int) :: .bool false :: .bool false :: .pointer (some ⟨g5, 17, none⟩) :: .slice (some ad) es.length c :: .int .i64 (es.length : Int) :: .int .i64 (j : Int) :: .bool (decide ((j : Int) < (es.length : Int))) :: .pointer (some ((ad).add (j * 2))) :: .agg ([.int .i64 x.1, .int .i64 x.2] : List Value).toArray :: .pointer (some ⟨g51, 0, none⟩) :: .int .i64 x.1 :: .int .i64 (lastK es j) :: .bool false :: .bool false :: .pointer (some ⟨g51, 0, none⟩) :: uq31.2.2.2.2.2 :: uq32.1 :: uq32.2.1 :: uq32.2.2.1 :: uq32.2.2.2.1 :: uq32.2.2.2.2.1 :: uq32.2.2.2.2.2 :: uq33.1 :: uq33.2.1 :: uq33.2.2.1 :: uq33.2.2.2.1 :: uq33.2.2.2.2.1 :: uq33.2.2.2.2.2 :: uq34.1 :: uq34.2.1 :: uq34.2.2 :: []))) _ (x_field (j := 0) _ _ rfl rfl Try.underlying62 rfl (by rfl) rfl) rfl ?_
                  refine p_on rfl (by rw [hops65]; rfl) ?_
                  refine p_run _ (x_load (.int .i64 x.1) rfl rfl (bkCell (HS.get (.head _)) 0 _ rfl) (by rfl)) rfl ?_
                  refine p_on rfl (by rw [hops65]; rfl) ?_
                  refine p_run _ (x_cmp (k := .i64) (m := x.1) (n := 63) .gtr true rfl rfl rfl (show decide _ = true from decide_eq_true h2) rfl) rfl ?_
                  refine p_run _ (x_pick false (.bool true) (.bool true) (.bool true) rfl rfl rfl rfl rfl) rfl ?_
                  refine p_run _ (x_move (.bool true) rfl rfl) rfl ?_
                  refine p_off (by rw [hops65]; rfl) rfl ?_
                  refine p_off (by rw [hops65]; rfl) rfl ?_
                  refine p_off (by rw [hops65]; rfl) rfl ?_
                  refine p_run _ (x_pick true (.bool true) (undef) (.bool true) rfl rfl rfl rfl rfl) rfl ?_
                  refine p_run _ (x_move (.bool true) rfl rfl) rfl ?_
                  refine p_off (l' := (nv8 k (nums .u8 (b.map bv)) (some ad) es.length c :: .pointer (some ⟨g5, 0, none⟩) :: uq30.1 :: .int .i64 (lastK es j) :: undef :: .pointer (some ⟨g51, 0, none⟩) :: .pointer (some ⟨g5, 0, none⟩) :: .int .i64 k :: .bool false :: U4a8 (.pointer (some ⟨g5, 0, none⟩) :: .int .i64 k :: .bool true :: .bool true :: .pointer (some ⟨g5, 0, none⟩) :: .int .i64 k :: .bool false :: .bool false :: .bool false :: .pointer (some ⟨g5, 1, none⟩) :: .agg ((nums .u8 (b.map bv))).toArray :: .agg ((nums .u8 (zK.map bv))).toArray :: .bool false :: .bool false :: .bool false :: .pointer (some ⟨g5, 17, none⟩) :: .slice (some ad) es.length c :: .int .i64 (es.length : Int) :: .bool false :: .bool false :: .bool false :: .pointer (some ⟨g5, 17, none⟩) :: .slice (some ad) es.length c :: .int .i64 (es.length : Int) :: .bool false :: .bool false :: .pointer (some ⟨g5, 17, none⟩) :: .slice (some ad) es.length c :: .int .i64 (es.length : Int) :: .int .i64 (j : Int) :: .bool (decide ((j : Int) < (es.length : Int))) :: .pointer (some ((ad).add (j * 2))) :: .agg ([.int .i64 x.1, .int .i64 x.2] : List Value).toArray :: .pointer (some ⟨g51, 0, none⟩) :: .int .i64 x.1 :: .int .i64 (lastK es j) :: .bool false :: .bool false :: .pointer (some ⟨g51, 0, none⟩) :: .int .i64 x.1 :: .bool true :: .bool true :: .bool true :: undef :: undef :: undef :: .bool true :: .bool true :: undef :: uq33.2.2.2.1 :: uq33.2.2.2.2.1 :: uq33.2.2.2.2.2 :: uq34.1 :: uq34.2.1 :: uq34.2.2 :: []))) (by rw [hops65]; rfl) rfl ?_
                  refine p_off (by rw [hops65]; rfl) rfl ?_
                  refine p_off (by rw [hops65]; rfl) rfl ?_
                  refine p_run _ (x_pick true (.bool true) (undef) (.bool true) rfl rfl rfl rfl rfl) rfl ?_
                  clear hops65
                  refine wpList_nil ?_
                  refine hK58 _ _ ?_
                  refine c_true rfl ?_
                  refine wp_seq_k (fun K67 hK68 => ?_)
                  refine c_region (fun ops70 hops69 => ?_)
                  clear hops69
                  refine p_run _ (x_assign (.bool false) rfl rfl) rfl ?_
                  refine wpList_nil ?_
                  refine hK68 _ _ ?_
                  refine wp_ret ?_
                  try simp only [Exit.inBlock, Exit.then]
                  refine c_ret (.bool false) (r_tmp rfl rfl) ?_
                  have e1 : ndOk k b es = false := by unfold ndOk; rw [if_neg hk1, if_pos (.inr hk)]; rw [rise_no hlt he]; simp
                  rw [e1]
                  exact ⟨rfl, HS.belowOf⟩
                · skip
                  refine c_region (fun ops72 hops71 => ?_)
                  refine p_run _ (x_field (j := 0) _ _ rfl rfl Try.underlying62 rfl (by rfl) rfl) rfl ?_
                  refine p_run _ (x_load (.int .i64 x.1) rfl rfl (bkCell (HS.get (.head _)) 0 _ rfl) (by rfl)) rfl ?_
                  refine p_run _ (x_move (.int .i64 (lastK es j)) rfl rfl) rfl ?_
                  refine p_run _ (x_cmp (k := .i64) (m := x.1) (n := (lastK es j)) .leq false rfl rfl rfl (show decide _ = false from decide_eq_false h1) rfl) rfl ?_
                  refine p_run _ (x_move (.bool false) rfl rfl) rfl ?_
                  refine p_on rfl (by rw [hops71]; rfl) ?_
                  refine p_run (l' := (nv8 k (nums .u8 (b.map bv)) (some ad) es.length c :: .pointer (some ⟨g5, 0, none⟩) :: uq30.1 :: .int .i64 (lastK es j) :: undef :: .pointer (some ⟨g51, 0, none⟩) :: .pointer (some ⟨g5, 0, none⟩) :: .int .i64 k :: .bool false :: U4a8 (.pointer (some ⟨g5, 0, none⟩) :: .int .i64 k :: .bool true :: .bool true :: .pointer (some ⟨g5, 0, none⟩) :: .int .i64 k :: .bool false :: .bool false :: .bool false :: .pointer (some ⟨g5, 1, none⟩) :: .agg ((nums .u8 (b.map bv))).toArray :: .agg ((nums .u8 (zK.map bv))).toArray :: .bool false :: .bool false :: .bool false :: .pointer (some ⟨g5, 17, none⟩) :: .slice (some ad) es.length c :: .int .i64 (es.length : Int) :: .bool false :: .bool false :: .bool false :: .pointer (some ⟨g5, 17, none⟩) :: .slice (some ad) es.length c :: .int .i64 (es.length : Int) :: .bool false :: .bool false :: .pointer (some ⟨g5, 17, none⟩) :: .slice (some ad) es.length c :: .int .i64 (es.length : Int) :: .int .i64 (j : Int) :: .bool (decide ((j : Int) < (es.length : Int))) :: .pointer (some ((ad).add (j * 2))) :: .agg ([.int .i64 x.1, .int .i64 x.2] : List Value).toArray :: .pointer (some ⟨g51, 0, none⟩) :: .int .i64 x.1 :: .int .i64 (lastK es j) :: .bool false :: .bool false :: .pointer (some ⟨g51, 0, none⟩) :: uq31.2.2.2.2.2 :: uq32.1 :: uq32.2.1 :: uq32.2.2.1 :: uq32.2.2.2.1 :: uq32.2.2.2.2.1 :: uq32.2.2.2.2.2 :: uq33.1 :: uq33.2.1 :: uq33.2.2.1 :: uq33.2.2.2.1 :: uq33.2.2.2.2.1 :: uq33.2.2.2.2.2 :: uq34.1 :: uq34.2.1 :: uq34.2.2 :: []))) _ (x_field (j := 0) _ _ rfl rfl Try.underlying62 rfl (by rfl) rfl) rfl ?_
                  refine p_on rfl (by rw [hops71]; rfl) ?_
                  refine p_run _ (x_load (.int .i64 x.1) rfl rfl (bkCell (HS.get (.head _)) 0 _ rfl) (by rfl)) rfl ?_
                  refine p_on rfl (by rw [hops71]; rfl) ?_
                  refine p_run _ (x_cmp (k := .i64) (m := x.1) (n := 63) .gtr false rfl rfl rfl (show decide _ = false from decide_eq_false h2) rfl) rfl ?_
                  refine p_run _ (x_pick false (.bool true) (.bool false) (.bool false) rfl rfl rfl rfl rfl) rfl ?_
                  refine p_run _ (x_move (.bool false) rfl rfl) rfl ?_
                  refine p_on rfl (by rw [hops71]; rfl) ?_
                  refine p_run _ (x_field (j := 1) _ _ rfl rfl Try.underlying62 rfl (by rfl) rfl) rfl ?_
                  refine p_on rfl (by rw [hops71]; rfl) ?_
                  refine p_run _ (x_load (.int .i64 x.2) rfl rfl (bkCell (HS.get (.head _)) 1 _ rfl) (by rfl)) rfl ?_
                  refine p_on rfl (by rw [hops71]; rfl) ?_
                  refine p_run _ (x_cmp (k := .i64) (m := x.2) (n := 0) .lss true rfl rfl rfl (show decide _ = true from decide_eq_true h3) rfl) rfl ?_
                  refine p_run _ (x_pick false (.bool true) (.bool true) (.bool true) rfl rfl rfl rfl rfl) rfl ?_
                  refine p_run _ (x_move (.bool true) rfl rfl) rfl ?_
                  refine p_off (l' := (nv8 k (nums .u8 (b.map bv)) (some ad) es.length c :: .pointer (some ⟨g5, 0, none⟩) :: uq30.1 :: .int .i64 (lastK es j) :: undef :: .pointer (some ⟨g51, 0, none⟩) :: .pointer (some ⟨g5, 0, none⟩) :: .int .i64 k :: .bool false :: U4a8 (.pointer (some ⟨g5, 0, none⟩) :: .int .i64 k :: .bool true :: .bool true :: .pointer (some ⟨g5, 0, none⟩) :: .int .i64 k :: .bool false :: .bool false :: .bool false :: .pointer (some ⟨g5, 1, none⟩) :: .agg ((nums .u8 (b.map bv))).toArray :: .agg ((nums .u8 (zK.map bv))).toArray :: .bool false :: .bool false :: .bool false :: .pointer (some ⟨g5, 17, none⟩) :: .slice (some ad) es.length c :: .int .i64 (es.length : Int) :: .bool false :: .bool false :: .bool false :: .pointer (some ⟨g5, 17, none⟩) :: .slice (some ad) es.length c :: .int .i64 (es.length : Int) :: .bool false :: .bool false :: .pointer (some ⟨g5, 17, none⟩) :: .slice (some ad) es.length c :: .int .i64 (es.length : Int) :: .int .i64 (j : Int) :: .bool (decide ((j : Int) < (es.length : Int))) :: .pointer (some ((ad).add (j * 2))) :: .agg ([.int .i64 x.1, .int .i64 x.2] : List Value).toArray :: .pointer (some ⟨g51, 0, none⟩) :: .int .i64 x.1 :: .int .i64 (lastK es j) :: .bool false :: .bool false :: .pointer (some ⟨g51, 0, none⟩) :: .int .i64 x.1 :: .bool false :: .bool false :: .bool false :: .pointer (some ⟨g51, 1, none⟩) :: .int .i64 x.2 :: .bool true :: .bool true :: .bool true :: undef :: uq33.2.2.2.1 :: uq33.2.2.2.2.1 :: uq33.2.2.2.2.2 :: uq34.1 :: uq34.2.1 :: uq34.2.2 :: []))) (by rw [hops71]; rfl) rfl ?_
                  refine p_off (by rw [hops71]; rfl) rfl ?_
                  refine p_off (by rw [hops71]; rfl) rfl ?_
                  refine p_run _ (x_pick true (.bool true) (undef) (.bool true) rfl rfl rfl rfl rfl) rfl ?_
                  clear hops71
                  refine wpList_nil ?_
                  refine hK58 _ _ ?_
                  refine c_true rfl ?_
                  refine wp_seq_k (fun K73 hK74 => ?_)
                  refine c_region (fun ops76 hops75 => ?_)
                  clear hops75
                  refine p_run _ (x_assign (.bool false) rfl rfl) rfl ?_
                  refine wpList_nil ?_
                  refine hK74 _ _ ?_
                  refine wp_ret ?_
                  try simp only [Exit.inBlock, Exit.then]
                  refine c_ret (.bool false) (r_tmp rfl rfl) ?_
                  have e1 : ndOk k b es = false := by unfold ndOk; rw [if_neg hk1, if_pos (.inr hk)]; rw [rise_no hlt he]; simp
                  rw [e1]
                  exact ⟨rfl, HS.belowOf⟩
                · skip
                  refine c_region (fun ops78 hops77 => ?_)
                  refine p_run _ (x_field (j := 0) _ _ rfl rfl Try.underlying62 rfl (by rfl) rfl) rfl ?_
                  refine p_run _ (x_load (.int .i64 x.1) rfl rfl (bkCell (HS.get (.head _)) 0 _ rfl) (by rfl)) rfl ?_
                  refine p_run _ (x_move (.int .i64 (lastK es j)) rfl rfl) rfl ?_
                  refine p_run _ (x_cmp (k := .i64) (m := x.1) (n := (lastK es j)) .leq false rfl rfl rfl (show decide _ = false from decide_eq_false h1) rfl) rfl ?_
                  refine p_run _ (x_move (.bool false) rfl rfl) rfl ?_
                  refine p_on rfl (by rw [hops77]; rfl) ?_
                  refine p_run (l' := (nv8 k (nums .u8 (b.map bv)) (some ad) es.length c :: .pointer (some ⟨g5, 0, none⟩) :: uq30.1 :: .int .i64 (lastK es j) :: undef :: .pointer (some ⟨g51, 0, none⟩) :: .pointer (some ⟨g5, 0, none⟩) :: .int .i64 k :: .bool false :: U4a8 (.pointer (some ⟨g5, 0, none⟩) :: .int .i64 k :: .bool true :: .bool true :: .pointer (some ⟨g5, 0, none⟩) :: .int .i64 k :: .bool false :: .bool false :: .bool false :: .pointer (some ⟨g5, 1, none⟩) :: .agg ((nums .u8 (b.map bv))).toArray :: .agg ((nums .u8 (zK.map bv))).toArray :: .bool false :: .bool false :: .bool false :: .pointer (some ⟨g5, 17, none⟩) :: .slice (some ad) es.length c :: .int .i64 (es.length : Int) :: .bool false :: .bool false :: .bool false :: .pointer (some ⟨g5, 17, none⟩) :: .slice (some ad) es.length c :: .int .i64 (es.length : Int) :: .bool false :: .bool false :: .pointer (some ⟨g5, 17, none⟩) :: .slice (some ad) es.length c :: .int .i64 (es.length : Int) :: .int .i64 (j : Int) :: .bool (decide ((j : Int) < (es.length : Int))) :: .pointer (some ((ad).add (j * 2))) :: .agg ([.int .i64 x.1, .int .i64 x.2] : List Value).toArray :: .pointer (some ⟨g51, 0, none⟩) :: .int .i64 x.1 :: .int .i64 (lastK es j) :: .bool false :: .bool false :: .pointer (some ⟨g51, 0, none⟩) :: uq31.2.2.2.2.2 :: uq32.1 :: uq32.2.1 :: uq32.2.2.1 :: uq32.2.2.2.1 :: uq32.2.2.2.2.1 :: uq32.2.2.2.2.2 :: uq33.1 :: uq33.2.1 :: uq33.2.2.1 :: uq33.2.2.2.1 :: uq33.2.2.2.2.1 :: uq33.2.2.2.2.2 :: uq34.1 :: uq34.2.1 :: uq34.2.2 :: []))) _ (x_field (j := 0) _ _ rfl rfl Try.underlying62 rfl (by rfl) rfl) rfl ?_
                  refine p_on rfl (by rw [hops77]; rfl) ?_
                  refine p_run _ (x_load (.int .i64 x.1) rfl rfl (bkCell (HS.get (.head _)) 0 _ rfl) (by rfl)) rfl ?_
                  refine p_on rfl (by rw [hops77]; rfl) ?_
                  refine p_run _ (x_cmp (k := .i64) (m := x.1) (n := 63) .gtr false rfl rfl rfl (show decide _ = false from decide_eq_false h2) rfl) rfl ?_
                  refine p_run _ (x_pick false (.bool true) (.bool false) (.bool false) rfl rfl rfl rfl rfl) rfl ?_
                  refine p_run _ (x_move (.bool false) rfl rfl) rfl ?_
                  refine p_on rfl (by rw [hops77]; rfl) ?_
                  refine p_run _ (x_field (j := 1) _ _ rfl rfl Try.underlying62 rfl (by rfl) rfl) rfl ?_
                  refine p_on rfl (by rw [hops77]; rfl) ?_
                  refine p_run _ (x_load (.int .i64 x.2) rfl rfl (bkCell (HS.get (.head _)) 1 _ rfl) (by rfl)) rfl ?_
                  refine p_on rfl (by rw [hops77]; rfl) ?_
                  refine p_run _ (x_cmp (k := .i64) (m := x.2) (n := 0) .lss false rfl rfl rfl (show decide _ = false from decide_eq_false h3) rfl) rfl ?_
                  refine p_run _ (x_pick false (.bool true) (.bool false) (.bool false) rfl rfl rfl rfl rfl) rfl ?_
                  refine p_run _ (x_move (.bool false) rfl rfl) rfl ?_
                  refine p_on rfl (by rw [hops77]; rfl) ?_
                  refine p_run (l' := (nv8 k (nums .u8 (b.map bv)) (some ad) es.length c :: .pointer (some ⟨g5, 0, none⟩) :: uq30.1 :: .int .i64 (lastK es j) :: undef :: .pointer (some ⟨g51, 0, none⟩) :: .pointer (some ⟨g5, 0, none⟩) :: .int .i64 k :: .bool false :: U4a8 (.pointer (some ⟨g5, 0, none⟩) :: .int .i64 k :: .bool true :: .bool true :: .pointer (some ⟨g5, 0, none⟩) :: .int .i64 k :: .bool false :: .bool false :: .bool false :: .pointer (some ⟨g5, 1, none⟩) :: .agg ((nums .u8 (b.map bv))).toArray :: .agg ((nums .u8 (zK.map bv))).toArray :: .bool false :: .bool false :: .bool false :: .pointer (some ⟨g5, 17, none⟩) :: .slice (some ad) es.length c :: .int .i64 (es.length : Int) :: .bool false :: .bool false :: .bool false :: .pointer (some ⟨g5, 17, none⟩) :: .slice (some ad) es.length c :: .int .i64 (es.length : Int) :: .bool false :: .bool false :: .pointer (some ⟨g5, 17, none⟩) :: .slice (some ad) es.length c :: .int .i64 (es.length : Int) :: .int .i64 (j : Int) :: .bool (decide ((j : Int) < (es.length : Int))) :: .pointer (some ((ad).add (j * 2))) :: .agg ([.int .i64 x.1, .int .i64 x.2] : List Value).toArray :: .pointer (some ⟨g51, 0, none⟩) :: .int .i64 x.1 :: .int .i64 (lastK es j) :: .bool false :: .bool false :: .pointer (some ⟨g51, 0, none⟩) :: .int .i64 x.1 :: .bool false :: .bool false :: .bool false :: .pointer (some ⟨g51, 1, none⟩) :: .int .i64 x.2 :: .bool false :: .bool false :: .bool false :: .pointer (some ⟨g51, 1, none⟩) :: uq33.2.2.2.1 :: uq33.2.2.2.2.1 :: uq33.2.2.2.2.2 :: uq34.1 :: uq34.2.1 :: uq34.2.2 :: []))) _ (x_field (j := 1) _ _ rfl rfl Try.underlying62 rfl (by rfl) rfl) rfl ?_
                  refine p_on rfl (by rw [hops77]; rfl) ?_
                  refine p_run _ (x_load (.int .i64 x.2) rfl rfl (bkCell (HS.get (.head _)) 1 _ rfl) (by rfl)) rfl ?_
                  refine p_on rfl (by rw [hops77]; rfl) ?_
                  refine p_run _ (x_cmp (k := .i64) (m := x.2) (n := 239) .gtr true rfl rfl rfl (show decide _ = true from decide_eq_true h4) rfl) rfl ?_
                  refine p_run _ (x_pick false (.bool true) (.bool true) (.bool true) rfl rfl rfl rfl rfl) rfl ?_
                  clear hops77
                  refine wpList_nil ?_
                  refine hK58 _ _ ?_
                  refine c_true rfl ?_
                  refine wp_seq_k (fun K79 hK80 => ?_)
                  refine c_region (fun ops82 hops81 => ?_)
                  clear hops81
                  refine p_run _ (x_assign (.bool false) rfl rfl) rfl ?_
                  refine wpList_nil ?_
                  refine hK80 _ _ ?_
                  refine wp_ret ?_
                  try simp only [Exit.inBlock, Exit.then]
                  refine c_ret (.bool false) (r_tmp rfl rfl) ?_
                  have e1 : ndOk k b es = false := by unfold ndOk; rw [if_neg hk1, if_pos (.inr hk)]; rw [rise_no hlt he]; simp
                  rw [e1]
                  exact ⟨rfl, HS.belowOf⟩
                · skip
                  refine c_region (fun ops84 hops83 => ?_)
                  refine p_run _ (x_field (j := 0) _ _ rfl rfl Try.underlying62 rfl (by rfl) rfl) rfl ?_
                  refine p_run _ (x_load (.int .i64 x.1) rfl rfl (bkCell (HS.get (.head _)) 0 _ rfl) (by rfl)) rfl ?_
                  refine p_run _ (x_move (.int .i64 (lastK es j)) rfl rfl) rfl ?_
                  refine p_run _ (x_cmp (k := .i64) (m := x.1) (n := (lastK es j)) .leq false rfl rfl rfl (show decide _ = false from decide_eq_false h1) rfl) rfl ?_
                  refine p_run _ (x_move (.bool false) rfl rfl) rfl ?_
                  refine p_on rfl (by rw [hops83]; rfl) ?_
                  refine p_run (l' := (nv8 k (nums .u8 (b.map bv)) (some ad) es.length c :: .pointer (some ⟨g5, 0, none⟩) :: uq30.1 :: .int .i64 (lastK es j) :: undef :: .pointer (some ⟨g51, 0, none⟩) :: .pointer (some ⟨g5, 0, none⟩) :: .int .i64 k :: .bool false :: U4a8 (.pointer (some ⟨g5, 0, none⟩) :: .int .i64 k :: .bool true :: .bool true :: .pointer (some ⟨g5, 0, none⟩) :: .int .i64 k :: .bool false :: .bool false :: .bool false :: .pointer (some ⟨g5, 1, none⟩) :: .agg ((nums .u8 (b.map bv))).toArray :: .agg ((nums .u8 (zK.map bv))).toArray :: .bool false :: .bool false :: .bool false :: .pointer (some ⟨g5, 17, none⟩) :: .slice (some ad) es.length c :: .int .i64 (es.length : Int) :: .bool false :: .bool false :: .bool false :: .pointer (some ⟨g5, 17, none⟩) :: .slice (some ad) es.length c :: .int .i64 (es.length : Int) :: .bool false :: .bool false :: .pointer (some ⟨g5, 17, none⟩) :: .slice (some ad) es.length c :: .int .i64 (es.length : Int) :: .int .i64 (j : Int) :: .bool (decide ((j : Int) < (es.length : Int))) :: .pointer (some ((ad).add (j * 2))) :: .agg ([.int .i64 x.1, .int .i64 x.2] : List Value).toArray :: .pointer (some ⟨g51, 0, none⟩) :: .int .i64 x.1 :: .int .i64 (lastK es j) :: .bool false :: .bool false :: .pointer (some ⟨g51, 0, none⟩) :: uq31.2.2.2.2.2 :: uq32.1 :: uq32.2.1 :: uq32.2.2.1 :: uq32.2.2.2.1 :: uq32.2.2.2.2.1 :: uq32.2.2.2.2.2 :: uq33.1 :: uq33.2.1 :: uq33.2.2.1 :: uq33.2.2.2.1 :: uq33.2.2.2.2.1 :: uq33.2.2.2.2.2 :: uq34.1 :: uq34.2.1 :: uq34.2.2 :: []))) _ (x_field (j := 0) _ _ rfl rfl Try.underlying62 rfl (by rfl) rfl) rfl ?_
                  refine p_on rfl (by rw [hops83]; rfl) ?_
                  refine p_run _ (x_load (.int .i64 x.1) rfl rfl (bkCell (HS.get (.head _)) 0 _ rfl) (by rfl)) rfl ?_
                  refine p_on rfl (by rw [hops83]; rfl) ?_
                  refine p_run _ (x_cmp (k := .i64) (m := x.1) (n := 63) .gtr false rfl rfl rfl (show decide _ = false from decide_eq_false h2) rfl) rfl ?_
                  refine p_run _ (x_pick false (.bool true) (.bool false) (.bool false) rfl rfl rfl rfl rfl) rfl ?_
                  refine p_run _ (x_move (.bool false) rfl rfl) rfl ?_
                  refine p_on rfl (by rw [hops83]; rfl) ?_
                  refine p_run _ (x_field (j := 1) _ _ rfl rfl Try.underlying62 rfl (by rfl) rfl) rfl ?_
                  refine p_on rfl (by rw [hops83]; rfl) ?_
                  refine p_run _ (x_load (.int .i64 x.2) rfl rfl (bkCell (HS.get (.head _)) 1 _ rfl) (by rfl)) rfl ?_
                  refine p_on rfl (by rw [hops83]; rfl) ?_
                  refine p_run _ (x_cmp (k := .i64) (m := x.2) (n := 0) .lss false rfl rfl rfl (show decide _ = false from decide_eq_false h3) rfl) rfl ?_
                  refine p_run _ (x_pick false (.bool true) (.bool false) (.bool false) rfl rfl rfl rfl rfl) rfl ?_
                  refine p_run _ (x_move (.bool false) rfl rfl) rfl ?_
                  refine p_on rfl (by rw [hops83]; rfl) ?_
                  refine p_run (l' := (nv8 k (nums .u8 (b.map bv)) (some ad) es.length c :: .pointer (some ⟨g5, 0, none⟩) :: uq30.1 :: .int .i64 (lastK es j) :: undef :: .pointer (some ⟨g51, 0, none⟩) :: .pointer (some ⟨g5, 0, none⟩) :: .int .i64 k :: .bool false :: U4a8 (.pointer (some ⟨g5, 0, none⟩) :: .int .i64 k :: .bool true :: .bool true :: .pointer (some ⟨g5, 0, none⟩) :: .int .i64 k :: .bool false :: .bool false :: .bool false :: .pointer (some ⟨g5, 1, none⟩) :: .agg ((nums .u8 (b.map bv))).toArray :: .agg ((nums .u8 (zK.map bv))).toArray :: .bool false :: .bool false :: .bool false :: .pointer (some ⟨g5, 17, none⟩) :: .slice (some ad) es.length c :: .int .i64 (es.length : Int) :: .bool false :: .bool false :: .bool false :: .pointer (some ⟨g5, 17, none⟩) :: .slice (some ad) es.length c :: .int .i64 (es.length : Int) :: .bool false :: .bool false :: .pointer (some ⟨g5, 17, none⟩) :: .slice (some ad) es.length c :: .int .i64 (es.length : Int) :: .int .i64 (j : Int) :: .bool (decide ((j : Int) < (es.length : Int))) :: .pointer (some ((ad).add (j * 2))) :: .agg ([.int .i64 x.1, .int .i64 x.2] : List Value).toArray :: .pointer (some ⟨g51, 0, none⟩) :: .int .i64 x.1 :: .int .i64 (lastK es j) :: .bool false :: .bool false :: .pointer (some ⟨g51, 0, none⟩) :: .int .i64 x.1 :: .bool false :: .bool false :: .bool false :: .pointer (some ⟨g51, 1, none⟩) :: .int .i64 x.2 :: .bool false :: .bool false :: .bool false :: .pointer (some ⟨g51, 1, none⟩) :: uq33.2.2.2.1 :: uq33.2.2.2.2.1 :: uq33.2.2.2.2.2 :: uq34.1 :: uq34.2.1 :: uq34.2.2 :: []))) _ (x_field (j := 1) _ _ rfl rfl Try.underlying62 rfl (by rfl) rfl) rfl ?_
                  refine p_on rfl (by rw [hops83]; rfl) ?_
                  refine p_run _ (x_load (.int .i64 x.2) rfl rfl (bkCell (HS.get (.head _)) 1 _ rfl) (by rfl)) rfl ?_
                  refine p_on rfl (by rw [hops83]; rfl) ?_
                  refine p_run _ (x_cmp (k := .i64) (m := x.2) (n := 239) .gtr false rfl rfl rfl (show decide _ = false from decide_eq_false h4) rfl) rfl ?_
                  refine p_run _ (x_pick false (.bool true) (.bool false) (.bool false) rfl rfl rfl rfl rfl) rfl ?_
                  clear hops83
                  refine wpList_nil ?_
                  refine hK58 _ _ ?_
                  refine c_false rfl ?_
                  refine wp_skip ?_
                  refine hK56 _ _ ?_
                  refine c_region (fun ops86 hops85 => ?_)
                  clear hops85
                  refine p_run _ (x_field (j := 0) _ _ rfl rfl Try.underlying62 rfl (by rfl) rfl) rfl ?_
                  refine p_run _ (x_load (.int .i64 x.1) rfl rfl (bkCell (HS.get (.head _)) 0 _ rfl) (by rfl)) rfl ?_
                  refine p_run _ (x_assign (.int .i64 x.1) rfl rfl) rfl ?_
                  refine wpList_nil ?_
                  refine hK46 _ _ ?_
                  refine c_region (fun ops88 hops87 => ?_)
                  clear hops87
                  refine p_run _ (x_arith (k := .i64) (m := (j : Int)) (n := 1) .add (((j + 1 : Nat) : Int)) rfl rfl rfl (show IntKind.i64.wrap ((j : Int) + 1) = ((j + 1 : Nat) : Int) from ((wr64' (by omega)).trans (by omega))) rfl) rfl ?_
                  refine p_run _ (x_move (.int .i64 ((j + 1 : Nat) : Int)) rfl rfl) rfl ?_
                  refine wpList_nil ?_
                  refine fr_at (l' := (nv8 k (nums .u8 (b.map bv)) (some ad) es.length c :: .pointer (some ⟨g5, 0, none⟩) :: uq30.1 :: .int .i64 x.1 :: undef :: .pointer (some ⟨g51, 0, none⟩) :: .pointer (some ⟨g5, 0, none⟩) :: .int .i64 k :: .bool false :: U4a8 (.pointer (some ⟨g5, 0, none⟩) :: .int .i64 k :: .bool true :: .bool true :: .pointer (some ⟨g5, 0, none⟩) :: .int .i64 k :: .bool false :: .bool false :: .bool false :: .pointer (some ⟨g5, 1, none⟩) :: .agg ((nums .u8 (b.map bv))).toArray :: .agg ((nums .u8 (zK.map bv))).toArray :: .bool false :: .bool false :: .bool false :: .pointer (some ⟨g5, 17, none⟩) :: .slice (some ad) es.length c :: .int .i64 (es.length : Int) :: .bool false :: .bool false :: .bool false :: .pointer (some ⟨g5, 17, none⟩) :: .slice (some ad) es.length c :: .int .i64 (es.length : Int) :: .bool false :: .bool false :: .pointer (some ⟨g5, 17, none⟩) :: .slice (some ad) es.length c :: .int .i64 (es.length : Int) :: .int .i64 ((j + 1 : Nat) : Int) :: .bool (decide ((j : Int) < (es.length : Int))) :: .pointer (some ((ad).add (j * 2))) :: .agg ([.int .i64 x.1, .int .i64 x.2] : List Value).toArray :: .pointer (some ⟨g51, 0, none⟩) :: .int .i64 x.1 :: .int .i64 (lastK es j) :: .bool false :: .bool false :: .pointer (some ⟨g51, 0, none⟩) :: .int .i64 x.1 :: .bool false :: .bool false :: .bool false :: .pointer (some ⟨g51, 1, none⟩) :: .int .i64 x.2 :: .bool false :: .bool false :: .bool false :: .pointer (some ⟨g51, 1, none⟩) :: .int .i64 x.2 :: .bool false :: .bool false :: .pointer (some ⟨g51, 0, none⟩) :: .int .i64 x.1 :: .int .i64 ((j + 1 : Nat) : Int) :: []))) rfl ?_
                  refine hJ36 (j + 1, x.1) _ _ ?_ ?_
                  · show es.length - (j + 1) < es.length - j; omega
                  · exact ⟨(uq30.1, .pointer (some ⟨g51, 0, none⟩), .bool (decide ((j : Int) < (es.length : Int))), .pointer (some ((ad).add (j * 2))), .agg ([.int .i64 x.1, .int .i64 x.2] : List Value).toArray, .pointer (some ⟨g51, 0, none⟩)), (.int .i64 x.1, .int .i64 (lastK es j), .bool false, .bool false, .pointer (some ⟨g51, 0, none⟩), .int .i64 x.1), (.bool false, .bool false, .bool false, .pointer (some ⟨g51, 1, none⟩), .int .i64 x.2, .bool false), (.bool false, .bool false, .pointer (some ⟨g51, 1, none⟩), .int .i64 x.2, .bool false, .bool false), (.pointer (some ⟨g51, 0, none⟩), .int .i64 x.1, .int .i64 ((j + 1 : Nat) : Int)), rfl, HS.drop, ⟨(by omega), (by rw [riseK_snoc, hI.2, he]; rfl), (lastK_succ hx).symm⟩⟩
              · have hlt : j = es.length := by have := of_decide_eq_false hc44; omega
                subst hlt
                refine wp_exit ?_
                refine hK25 _ _ ?_
                refine wp_seq_k (fun K89 hK90 => ?_)
                refine c_region (fun ops92 hops91 => ?_)
                clear hops91
                refine p_run _ (x_assign (.bool true) rfl rfl) rfl ?_
                refine wpList_nil ?_
                refine hK90 _ _ ?_
                refine wp_ret ?_
                try simp only [Exit.inBlock, Exit.then]
                refine c_ret (.bool true) (r_tmp rfl rfl) ?_
                have e0 : riseB es = true := by unfold riseB; rw [hI.2]; simp; omega
                have e1 : ndOk k b es = true := by unfold ndOk; rw [if_neg hk1, if_pos (.inr hk)]; rw [e0, decide_eq_true hz, decide_eq_true (by omega : es.length ≤ 6)]; rfl
                rw [e1]
                exact ⟨rfl, HS.belowOf⟩
        · skip
          refine c_enter Try.func59 rfl 68 rfl (nv8 k (nums .u8 (b.map bv)) A es.length c :: U64a8 (undef :: undef :: undef :: [])) rfl ?_
          refine wp_seq_k (fun K1 hK2 => ?_)
          refine c_region (fun ops4 hops3 => ?_)
          clear hops3
          refine St.wBox HS (cs := (Value.int .i64 k :: ((nums .u8 (b.map bv)) ++ ([Value.slice A es.length c])))) (nv8 k (nums .u8 (b.map bv)) A es.length c) rfl rfl ?_
          clear HS
          intro g5 w6 hg7 HS
          refine p_run _ (x_assign (.bool false) rfl rfl) rfl ?_
          refine wpList_nil ?_
          refine hK2 _ _ ?_
          refine wp_seq_k (fun K8 hK9 => ?_)
          refine wp_seq_k (fun K10 hK11 => ?_)
          refine c_region (fun ops13 hops12 => ?_)
          clear hops12
          refine p_run _ (x_field (j := 0) _ _ rfl rfl Try.underlying52 rfl (by rfl) rfl) rfl ?_
          refine p_run _ (x_load (.int .i64 k) rfl rfl (bkCell (HS.get (.head _)) 0 _ rfl) (by rfl)) rfl ?_
          refine p_run _ (x_cmp (k := .i64) (m := k) (n := 1) .eql false rfl rfl rfl (cmp_not hk1) rfl) rfl ?_
          refine wpList_nil ?_
          refine hK11 _ _ ?_
          refine c_false rfl ?_
          refine wp_skip ?_
          refine hK9 _ _ ?_
          refine wp_seq_k (fun K14 hK15 => ?_)
          refine wp_seq_k (fun K16 hK17 => ?_)
          refine c_region (fun ops19 hops18 => ?_)
          refine p_run _ (x_field (j := 0) _ _ rfl rfl Try.underlying52 rfl (by rfl) rfl) rfl ?_
          refine p_run _ (x_load (.int .i64 k) rfl rfl (bkCell (HS.get (.head _)) 0 _ rfl) (by rfl)) rfl ?_
          refine p_run _ (x_cmp (k := .i64) (m := k) (n := 2) .neq true rfl rfl rfl (neq_no' hk2) rfl) rfl ?_
          refine p_run _ (x_move (.bool true) rfl rfl) rfl ?_
          refine p_on rfl (by rw [hops18]; rfl) ?_
          refine p_run (l' := (nv8 k (nums .u8 (b.map bv)) A es.length c :: .pointer (some ⟨g5, 0, none⟩) :: .bool false :: undef :: undef :: undef :: .pointer (some ⟨g5, 0, none⟩) :: .int .i64 k :: .bool false :: U4a8 (.pointer (some ⟨g5, 0, none⟩) :: .int .i64 k :: .bool true :: .bool true :: .pointer (some ⟨g5, 0, none⟩) :: U32a8 (U16a8 (undef :: undef :: []))))) _ (x_field (j := 0) _ _ rfl rfl Try.underlying52 rfl (by rfl) rfl) rfl ?_
          refine p_on rfl (by rw [hops18]; rfl) ?_
          refine p_run _ (x_load (.int .i64 k) rfl rfl (bkCell (HS.get (.head _)) 0 _ rfl) (by rfl)) rfl ?_
          refine p_on rfl (by rw [hops18]; rfl) ?_
          refine p_run _ (x_cmp (k := .i64) (m := k) (n := 3) .neq false rfl rfl rfl (neq_yes' hk) rfl) rfl ?_
          refine p_run _ (x_pick true (.bool false) (.bool false) (.bool false) rfl rfl rfl rfl rfl) rfl ?_
          refine p_run _ (x_move (.bool false) rfl rfl) rfl ?_
          refine p_on rfl (by rw [hops18]; rfl) ?_
          refine p_run _ (x_field (j := 1) _ _ rfl rfl Try.underlying52 rfl (by rfl) rfl) rfl ?_
          refine p_on rfl (by rw [hops18]; rfl) ?_
          refine p_run _ (x_loads ((nums .u8 (b.map bv))) 16 rfl rfl (bkCells (HS.get (.head _)) 1 _ (by simp)) (by rfl) (by kernel_rfl) (by simp [List.length_map, hb, nums_length])) rfl ?_
          refine p_on rfl (by rw [hops18]; rfl) ?_
          refine p_run _ (x_build ((nums .u8 (zK.map bv))) rfl (by kernel_rfl)) rfl ?_
          refine p_on rfl (by rw [hops18]; rfl) ?_
          refine p_run _ (x_eq .neq (.agg ((nums .u8 (b.map bv))).toArray) (.agg ((nums .u8 (zK.map bv))).toArray) (decide ((b.map bv) = (zK.map bv))) true rfl rfl rfl (equal_nums Try.underlying49 Try.underlying5 (by kernel_rfl) (by kernel_rfl) _ _ (by simp [List.length_map, hb]) (by simp [List.length_map, zK_len])) (by rw [eq_map, decide_eq_false hz]; rfl) rfl (guard_agg (by kernel_rfl)) (guard_agg (by kernel_rfl))) rfl ?_
          refine p_run _ (x_pick false (.bool true) (.bool true) (.bool true) rfl rfl rfl rfl rfl) rfl ?_
          refine p_run (l' := (nv8 k (nums .u8 (b.map bv)) A es.length c :: .pointer (some ⟨g5, 0, none⟩) :: .bool false :: undef :: undef :: undef :: .pointer (some ⟨g5, 0, none⟩) :: .int .i64 k :: .bool false :: U4a8 (.pointer (some ⟨g5, 0, none⟩) :: .int .i64 k :: .bool true :: .bool true :: .pointer (some ⟨g5, 0, none⟩) :: .int .i64 k :: .bool false :: .bool false :: .bool false :: .pointer (some ⟨g5, 1, none⟩) :: .agg ((nums .u8 (b.map bv))).toArray :: .agg ((nums .u8 (zK.map bv))).toArray :: .bool true :: .bool true :: .bool true :: U32a8 (U8a8 ([]))))) _ (x_move (.bool true) rfl rfl) rfl ?_
          refine p_off (by rw [hops18]; rfl) rfl ?_
          refine p_off (by rw [hops18]; rfl) rfl ?_
          refine p_off (by rw [hops18]; rfl) rfl ?_
          refine p_off (by rw [hops18]; rfl) rfl ?_
          refine p_run _ (x_pick true (.bool true) (undef) (.bool true) rfl rfl rfl rfl rfl) rfl ?_
          refine p_run _ (x_move (.bool true) rfl rfl) rfl ?_
          refine p_off (by rw [hops18]; rfl) rfl ?_
          refine p_off (by rw [hops18]; rfl) rfl ?_
          refine p_off (by rw [hops18]; rfl) rfl ?_
          refine p_off (l' := (nv8 k (nums .u8 (b.map bv)) A es.length c :: .pointer (some ⟨g5, 0, none⟩) :: .bool false :: undef :: undef :: undef :: .pointer (some ⟨g5, 0, none⟩) :: .int .i64 k :: .bool false :: U4a8 (.pointer (some ⟨g5, 0, none⟩) :: .int .i64 k :: .bool true :: .bool true :: .pointer (some ⟨g5, 0, none⟩) :: .int .i64 k :: .bool false :: .bool false :: .bool false :: .pointer (some ⟨g5, 1, none⟩) :: .agg ((nums .u8 (b.map bv))).toArray :: .agg ((nums .u8 (zK.map bv))).toArray :: .bool true :: .bool true :: .bool true :: U4a8 (.bool true :: .bool true :: U32a8 (undef :: undef :: []))))) (by rw [hops18]; rfl) rfl ?_
          refine p_run _ (x_pick true (.bool true) (undef) (.bool true) rfl rfl rfl rfl rfl) rfl ?_
          clear hops18
          refine wpList_nil ?_
          refine hK17 _ _ ?_
          refine c_true rfl ?_
          refine wp_seq_k (fun K20 hK21 => ?_)
          refine c_region (fun ops23 hops22 => ?_)
          clear hops22
          refine p_run _ (x_assign (.bool false) rfl rfl) rfl ?_
          refine wpList_nil ?_
          refine hK21 _ _ ?_
          refine wp_ret ?_
          try simp only [Exit.inBlock, Exit.then]
          refine c_ret (.bool false) (r_tmp rfl rfl) ?_
          have e1 : ndOk k b es = false := by unfold ndOk; rw [if_neg hk1, if_pos (.inr hk)]; simp [hz]
          rw [e1]
          exact ⟨rfl, HS.belowOf⟩
      · skip
        have hk3 := hk
        refine c_enter Try.func59 rfl 68 rfl (nv8 k (nums .u8 (b.map bv)) A es.length c :: U64a8 (undef :: undef :: undef :: [])) rfl ?_
        refine wp_seq_k (fun K1 hK2 => ?_)
        refine c_region (fun ops4 hops3 => ?_)
        clear hops3
        refine St.wBox HS (cs := (Value.int .i64 k :: ((nums .u8 (b.map bv)) ++ ([Value.slice A es.length c])))) (nv8 k (nums .u8 (b.map bv)) A es.length c) rfl rfl ?_
        clear HS
        intro g5 w6 hg7 HS
        refine p_run _ (x_assign (.bool false) rfl rfl) rfl ?_
        refine wpList_nil ?_
        refine hK2 _ _ ?_
        refine wp_seq_k (fun K8 hK9 => ?_)
        refine wp_seq_k (fun K10 hK11 => ?_)
        refine c_region (fun ops13 hops12 => ?_)
        clear hops12
        refine p_run _ (x_field (j := 0) _ _ rfl rfl Try.underlying52 rfl (by rfl) rfl) rfl ?_
        refine p_run _ (x_load (.int .i64 k) rfl rfl (bkCell (HS.get (.head _)) 0 _ rfl) (by rfl)) rfl ?_
        refine p_run _ (x_cmp (k := .i64) (m := k) (n := 1) .eql false rfl rfl rfl (cmp_not hk1) rfl) rfl ?_
        refine wpList_nil ?_
        refine hK11 _ _ ?_
        refine c_false rfl ?_
        refine wp_skip ?_
        refine hK9 _ _ ?_
        refine wp_seq_k (fun K14 hK15 => ?_)
        refine wp_seq_k (fun K16 hK17 => ?_)
        refine c_region (fun ops19 hops18 => ?_)
        refine p_run _ (x_field (j := 0) _ _ rfl rfl Try.underlying52 rfl (by rfl) rfl) rfl ?_
        refine p_run _ (x_load (.int .i64 k) rfl rfl (bkCell (HS.get (.head _)) 0 _ rfl) (by rfl)) rfl ?_
        refine p_run _ (x_cmp (k := .i64) (m := k) (n := 2) .neq true rfl rfl rfl (neq_no' hk2) rfl) rfl ?_
        refine p_run _ (x_move (.bool true) rfl rfl) rfl ?_
        refine p_on rfl (by rw [hops18]; rfl) ?_
        refine p_run (l' := (nv8 k (nums .u8 (b.map bv)) A es.length c :: .pointer (some ⟨g5, 0, none⟩) :: .bool false :: undef :: undef :: undef :: .pointer (some ⟨g5, 0, none⟩) :: .int .i64 k :: .bool false :: U4a8 (.pointer (some ⟨g5, 0, none⟩) :: .int .i64 k :: .bool true :: .bool true :: .pointer (some ⟨g5, 0, none⟩) :: U32a8 (U16a8 (undef :: undef :: []))))) _ (x_field (j := 0) _ _ rfl rfl Try.underlying52 rfl (by rfl) rfl) rfl ?_
        refine p_on rfl (by rw [hops18]; rfl) ?_
        refine p_run _ (x_load (.int .i64 k) rfl rfl (bkCell (HS.get (.head _)) 0 _ rfl) (by rfl)) rfl ?_
        refine p_on rfl (by rw [hops18]; rfl) ?_
        refine p_run _ (x_cmp (k := .i64) (m := k) (n := 3) .neq true rfl rfl rfl (neq_no' hk3) rfl) rfl ?_
        refine p_run _ (x_pick true (.bool true) (.bool false) (.bool true) rfl rfl rfl rfl rfl) rfl ?_
        refine p_run _ (x_move (.bool true) rfl rfl) rfl ?_
        refine p_off (by rw [hops18]; rfl) rfl ?_
        refine p_off (by rw [hops18]; rfl) rfl ?_
        refine p_off (by rw [hops18]; rfl) rfl ?_
        refine p_off (by rw [hops18]; rfl) rfl ?_
        refine p_run _ (x_pick true (.bool true) (undef) (.bool true) rfl rfl rfl rfl rfl) rfl ?_
        refine p_run (l' := (nv8 k (nums .u8 (b.map bv)) A es.length c :: .pointer (some ⟨g5, 0, none⟩) :: .bool false :: undef :: undef :: undef :: .pointer (some ⟨g5, 0, none⟩) :: .int .i64 k :: .bool false :: U4a8 (.pointer (some ⟨g5, 0, none⟩) :: .int .i64 k :: .bool true :: .bool true :: .pointer (some ⟨g5, 0, none⟩) :: .int .i64 k :: .bool true :: .bool true :: .bool true :: U4a8 (.bool true :: .bool true :: U32a8 (U8a8 ([])))))) _ (x_move (.bool true) rfl rfl) rfl ?_
        refine p_off (by rw [hops18]; rfl) rfl ?_
        refine p_off (by rw [hops18]; rfl) rfl ?_
        refine p_off (by rw [hops18]; rfl) rfl ?_
        refine p_off (by rw [hops18]; rfl) rfl ?_
        refine p_run _ (x_pick true (.bool true) (undef) (.bool true) rfl rfl rfl rfl rfl) rfl ?_
        refine p_run _ (x_move (.bool true) rfl rfl) rfl ?_
        refine p_off (by rw [hops18]; rfl) rfl ?_
        refine p_off (by rw [hops18]; rfl) rfl ?_
        refine p_off (by rw [hops18]; rfl) rfl ?_
        refine p_off (l' := (nv8 k (nums .u8 (b.map bv)) A es.length c :: .pointer (some ⟨g5, 0, none⟩) :: .bool false :: undef :: undef :: undef :: .pointer (some ⟨g5, 0, none⟩) :: .int .i64 k :: .bool false :: U4a8 (.pointer (some ⟨g5, 0, none⟩) :: .int .i64 k :: .bool true :: .bool true :: .pointer (some ⟨g5, 0, none⟩) :: .int .i64 k :: .bool true :: .bool true :: .bool true :: U4a8 (.bool true :: .bool true :: U4a8 (.bool true :: .bool true :: U32a8 (undef :: undef :: [])))))) (by rw [hops18]; rfl) rfl ?_
        refine p_run _ (x_pick true (.bool true) (undef) (.bool true) rfl rfl rfl rfl rfl) rfl ?_
        clear hops18
        refine wpList_nil ?_
        refine hK17 _ _ ?_
        refine c_true rfl ?_
        refine wp_seq_k (fun K20 hK21 => ?_)
        refine c_region (fun ops23 hops22 => ?_)
        clear hops22
        refine p_run _ (x_assign (.bool false) rfl rfl) rfl ?_
        refine wpList_nil ?_
        refine hK21 _ _ ?_
        refine wp_ret ?_
        try simp only [Exit.inBlock, Exit.then]
        refine c_ret (.bool false) (r_tmp rfl rfl) ?_
        have e1 : ndOk k b es = false := by unfold ndOk; rw [if_neg hk1, if_neg (fun h => h.elim hk2 hk3)]
        rw [e1]
        exact ⟨rfl, HS.belowOf⟩
end Go.Proofs.Ytiokdpnhaemciaa
