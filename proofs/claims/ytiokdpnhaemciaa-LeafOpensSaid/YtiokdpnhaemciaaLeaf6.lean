/- Package leaf: At, and what it calls. -/
import Derived.Test.YtiokdpnhaemciaaLeaf2
set_option linter.unusedVariables false
set_option linter.unusedSimpArgs false
namespace Go.Proofs.Ytiokdpnhaemciaa
open Go.RowKit Go.Proofs.YtiokdpnhaemciaaW.PrintWords Go.Proofs.YtiokdpnhaemciaaW.PrintLast Crc
abbrev U4l6 (l : List Value) : List Value := undef :: undef :: undef :: undef :: l
abbrev U8l6 (l : List Value) : List Value := U4l6 (U4l6 l)
abbrev U16l6 (l : List Value) : List Value := U8l6 (U8l6 l)
abbrev U32l6 (l : List Value) : List Value := U16l6 (U16l6 l)
abbrev U64l6 (l : List Value) : List Value := U32l6 (U32l6 l)
theorem bneq_self (a : Int) : cmpB .neq a a = false := by simp [cmpB]
/-- Which is greater? -/
def cmpZ (a b : Int) : Int := if a < b then -1 else if b < a then 1 else 0
theorem cmpZ_lt {a b : Int} : cmpZ a b < 0 ↔ a < b := by unfold cmpZ; split <;> (try split) <;> omega
theorem cmpZ_eq {a b : Int} : cmpZ a b = 0 ↔ a = b := by unfold cmpZ; split <;> (try split) <;> omega

set_option maxRecDepth 10000 in
theorem isnan_any (w : World) (a : Int) : Calls Try.prog 60 #[.int .i64 a] w fun e w' => e = .returned (.bool false) ∧ w' = w := by
  have HS := St.empty w
  · skip
    refine c_enter Try.func60 rfl 6 rfl [.int .i64 a, undef, undef, undef, undef, undef] rfl ?_
    refine wp_seq_k (fun K1 hK2 => ?_)
    refine c_region (fun ops4 hops3 => ?_)
    clear hops3
    refine p_run _ (x_assign (.bool false) rfl rfl) rfl ?_
    refine wpList_nil ?_
    refine hK2 _ _ ?_
    refine wp_seq_k (fun K5 hK6 => ?_)
    refine c_region (fun ops8 hops7 => ?_)
    clear hops7
    refine p_run _ (x_move (.int .i64 a) rfl rfl) rfl ?_
    refine p_run _ (x_move (.int .i64 a) rfl rfl) rfl ?_
    refine p_run _ (x_cmp (k := .i64) (m := a) (n := a) .neq false rfl rfl rfl (bneq_self a) rfl) rfl ?_
    refine p_run _ (x_assign (.bool false) rfl rfl) rfl ?_
    refine wpList_nil ?_
    refine fr_at (l' := [.int .i64 a, undef, .bool false, .int .i64 a, .int .i64 a, .bool false]) rfl ?_
    refine hK6 _ _ ?_
    refine wp_ret ?_
    try simp only [Exit.inBlock, Exit.then]
    refine c_ret (.bool false) (r_tmp rfl rfl) ?_
    exact ⟨rfl, rfl⟩

set_option maxRecDepth 10000 in
theorem compare_any (w : World) (a b : Int) : Calls Try.prog 44 #[.int .i64 a, .int .i64 b] w fun e w' => e = .returned (.int .i64 (cmpZ a b)) ∧ w' = w := by
  have HS := St.empty w
  by_cases h1 : a < b
  · skip
    refine c_enter Try.func44 rfl 20 rfl (.int .i64 a :: .int .i64 b :: U16l6 (undef :: undef :: [])) rfl ?_
    refine wp_seq_k (fun K1 hK2 => ?_)
    refine c_region (fun ops4 hops3 => ?_)
    clear hops3
    refine p_run _ (x_assign (.int .i64 0) rfl rfl) rfl ?_
    refine wpList_nil ?_
    refine hK2 _ _ ?_
    refine wp_seq_k (fun K5 hK6 => ?_)
    refine c_region (fun ops8 hops7 => ?_)
    clear hops7
    refine p_run _ (x_move (.int .i64 a) rfl rfl) rfl ?_
    refine w_call [.int .i64 a] Try.func60 (by kernel_rfl) (by rfl) rfl ?_
    refine (isnan_any _ a).mono ?_
    rintro e w' ⟨rfl, rfl⟩
    refine ⟨_, rfl, ?_⟩
    refine p_run _ (x_assign (.bool false) rfl rfl) rfl ?_
    refine wpList_nil ?_
    refine fr_at (l' := (.int .i64 a :: .int .i64 b :: undef :: undef :: .int .i64 0 :: .bool false :: undef :: .int .i64 a :: .bool false :: U8l6 (undef :: undef :: undef :: []))) rfl ?_
    refine hK6 _ _ ?_
    refine wp_seq_k (fun K9 hK10 => ?_)
    refine c_region (fun ops12 hops11 => ?_)
    clear hops11
    refine p_run _ (x_move (.int .i64 b) rfl rfl) rfl ?_
    refine w_call [.int .i64 b] Try.func60 (by kernel_rfl) (by rfl) rfl ?_
    refine (isnan_any _ b).mono ?_
    rintro e w' ⟨rfl, rfl⟩
    refine ⟨_, rfl, ?_⟩
    refine p_run _ (x_assign (.bool false) rfl rfl) rfl ?_
    refine wpList_nil ?_
    refine fr_at (l' := (.int .i64 a :: .int .i64 b :: undef :: undef :: .int .i64 0 :: .bool false :: .bool false :: .int .i64 a :: .bool false :: .int .i64 b :: .bool false :: U8l6 (undef :: []))) rfl ?_
    refine hK10 _ _ ?_
    refine wp_seq_k (fun K13 hK14 => ?_)
    refine wp_seq_k (fun K15 hK16 => ?_)
    refine c_region (fun ops18 hops17 => ?_)
    clear hops17
    refine p_run _ (x_move (.bool false) rfl rfl) rfl ?_
    refine wpList_nil ?_
    refine hK16 _ _ ?_
    refine c_false rfl ?_
    refine wp_skip ?_
    refine hK14 _ _ ?_
    refine wp_seq_k (fun K19 hK20 => ?_)
    refine wp_seq_k (fun K21 hK22 => ?_)
    refine c_region (fun ops24 hops23 => ?_)
    clear hops23
    refine p_run _ (x_move (.bool false) rfl rfl) rfl ?_
    refine wpList_nil ?_
    refine hK22 _ _ ?_
    refine c_false rfl ?_
    refine wp_skip ?_
    refine hK20 _ _ ?_
    refine wp_seq_k (fun K25 hK26 => ?_)
    refine wp_seq_k (fun K27 hK28 => ?_)
    refine c_region (fun ops30 hops29 => ?_)
    clear hops29
    refine p_run _ (x_move (.int .i64 a) rfl rfl) rfl ?_
    refine p_run _ (x_move (.int .i64 b) rfl rfl) rfl ?_
    refine p_run _ (x_cmp (k := .i64) (m := a) (n := b) .lss true rfl rfl rfl (show decide _ = true from decide_eq_true h1) rfl) rfl ?_
    refine wpList_nil ?_
    refine fr_at (l' := (.int .i64 a :: .int .i64 b :: undef :: undef :: .int .i64 0 :: .bool false :: .bool false :: .int .i64 a :: .bool false :: .int .i64 b :: .bool false :: .bool false :: undef :: .bool false :: .int .i64 a :: .int .i64 b :: .bool true :: undef :: undef :: undef :: [])) rfl ?_
    refine hK28 _ _ ?_
    refine c_true rfl ?_
    refine wp_seq_k (fun K31 hK32 => ?_)
    refine c_region (fun ops34 hops33 => ?_)
    clear hops33
    refine p_run _ (x_assign (.int .i64 (-1)) rfl rfl) rfl ?_
    refine wpList_nil ?_
    refine hK32 _ _ ?_
    refine wp_ret ?_
    try simp only [Exit.inBlock, Exit.then]
    refine c_ret (.int .i64 (-1)) (r_tmp rfl rfl) ?_
    have e1 : cmpZ a b = -1 := by unfold cmpZ; rw [if_pos h1]
    rw [e1]
    exact ⟨rfl, rfl⟩
  · skip
    by_cases h2 : b < a
    · skip
      refine c_enter Try.func44 rfl 20 rfl (.int .i64 a :: .int .i64 b :: U16l6 (undef :: undef :: [])) rfl ?_
      refine wp_seq_k (fun K1 hK2 => ?_)
      refine c_region (fun ops4 hops3 => ?_)
      clear hops3
      refine p_run _ (x_assign (.int .i64 0) rfl rfl) rfl ?_
      refine wpList_nil ?_
      refine hK2 _ _ ?_
      refine wp_seq_k (fun K5 hK6 => ?_)
      refine c_region (fun ops8 hops7 => ?_)
      clear hops7
      refine p_run _ (x_move (.int .i64 a) rfl rfl) rfl ?_
      refine w_call [.int .i64 a] Try.func60 (by kernel_rfl) (by rfl) rfl ?_
      refine (isnan_any _ a).mono ?_
      rintro e w' ⟨rfl, rfl⟩
      refine ⟨_, rfl, ?_⟩
      refine p_run _ (x_assign (.bool false) rfl rfl) rfl ?_
      refine wpList_nil ?_
      refine fr_at (l' := (.int .i64 a :: .int .i64 b :: undef :: undef :: .int .i64 0 :: .bool false :: undef :: .int .i64 a :: .bool false :: U8l6 (undef :: undef :: undef :: []))) rfl ?_
      refine hK6 _ _ ?_
      refine wp_seq_k (fun K9 hK10 => ?_)
      refine c_region (fun ops12 hops11 => ?_)
      clear hops11
      refine p_run _ (x_move (.int .i64 b) rfl rfl) rfl ?_
      refine w_call [.int .i64 b] Try.func60 (by kernel_rfl) (by rfl) rfl ?_
      refine (isnan_any _ b).mono ?_
      rintro e w' ⟨rfl, rfl⟩
      refine ⟨_, rfl, ?_⟩
      refine p_run _ (x_assign (.bool false) rfl rfl) rfl ?_
      refine wpList_nil ?_
      refine fr_at (l' := (.int .i64 a :: .int .i64 b :: undef :: undef :: .int .i64 0 :: .bool false :: .bool false :: .int .i64 a :: .bool false :: .int .i64 b :: .bool false :: U8l6 (undef :: []))) rfl ?_
      refine hK10 _ _ ?_
      refine wp_seq_k (fun K13 hK14 => ?_)
      refine wp_seq_k (fun K15 hK16 => ?_)
      refine c_region (fun ops18 hops17 => ?_)
      clear hops17
      refine p_run _ (x_move (.bool false) rfl rfl) rfl ?_
      refine wpList_nil ?_
      refine hK16 _ _ ?_
      refine c_false rfl ?_
      refine wp_skip ?_
      refine hK14 _ _ ?_
      refine wp_seq_k (fun K19 hK20 => ?_)
      refine wp_seq_k (fun K21 hK22 => ?_)
      refine c_region (fun ops24 hops23 => ?_)
      clear hops23
      refine p_run _ (x_move (.bool false) rfl rfl) rfl ?_
      refine wpList_nil ?_
      refine hK22 _ _ ?_
      refine c_false rfl ?_
      refine wp_skip ?_
      refine hK20 _ _ ?_
      refine wp_seq_k (fun K25 hK26 => ?_)
      refine wp_seq_k (fun K27 hK28 => ?_)
      refine c_region (fun ops30 hops29 => ?_)
      clear hops29
      refine p_run _ (x_move (.int .i64 a) rfl rfl) rfl ?_
      refine p_run _ (x_move (.int .i64 b) rfl rfl) rfl ?_
      refine p_run _ (x_cmp (k := .i64) (m := a) (n := b) .lss false rfl rfl rfl (show decide _ = false from decide_eq_false h1) rfl) rfl ?_
      refine wpList_nil ?_
      refine fr_at (l' := (.int .i64 a :: .int .i64 b :: undef :: undef :: .int .i64 0 :: .bool false :: .bool false :: .int .i64 a :: .bool false :: .int .i64 b :: .bool false :: .bool false :: undef :: .bool false :: .int .i64 a :: .int .i64 b :: .bool false :: undef :: undef :: undef :: [])) rfl ?_
      refine hK28 _ _ ?_
      refine c_false rfl ?_
      refine wp_skip ?_
      refine hK26 _ _ ?_
      refine wp_seq_k (fun K31 hK32 => ?_)
      refine wp_seq_k (fun K33 hK34 => ?_)
      refine c_region (fun ops36 hops35 => ?_)
      clear hops35
      refine p_run _ (x_move (.int .i64 a) rfl rfl) rfl ?_
      refine p_run _ (x_move (.int .i64 b) rfl rfl) rfl ?_
      refine p_run _ (x_cmp (k := .i64) (m := a) (n := b) .gtr true rfl rfl rfl (show decide _ = true from decide_eq_true h2) rfl) rfl ?_
      refine wpList_nil ?_
      refine fr_at (l' := (.int .i64 a :: .int .i64 b :: undef :: undef :: .int .i64 0 :: .bool false :: .bool false :: .int .i64 a :: .bool false :: .int .i64 b :: .bool false :: .bool false :: undef :: .bool false :: .int .i64 a :: .int .i64 b :: .bool false :: .int .i64 a :: .int .i64 b :: .bool true :: [])) rfl ?_
      refine hK34 _ _ ?_
      refine c_true rfl ?_
      refine wp_seq_k (fun K37 hK38 => ?_)
      refine c_region (fun ops40 hops39 => ?_)
      clear hops39
      refine p_run _ (x_assign (.int .i64 1) rfl rfl) rfl ?_
      refine wpList_nil ?_
      refine hK38 _ _ ?_
      refine wp_ret ?_
      try simp only [Exit.inBlock, Exit.then]
      refine c_ret (.int .i64 1) (r_tmp rfl rfl) ?_
      have e1 : cmpZ a b = 1 := by unfold cmpZ; rw [if_neg h1, if_pos h2]
      rw [e1]
      exact ⟨rfl, rfl⟩
    · skip
      refine c_enter Try.func44 rfl 20 rfl (.int .i64 a :: .int .i64 b :: U16l6 (undef :: undef :: [])) rfl ?_
      refine wp_seq_k (fun K1 hK2 => ?_)
      refine c_region (fun ops4 hops3 => ?_)
      clear hops3
      refine p_run _ (x_assign (.int .i64 0) rfl rfl) rfl ?_
      refine wpList_nil ?_
      refine hK2 _ _ ?_
      refine wp_seq_k (fun K5 hK6 => ?_)
      refine c_region (fun ops8 hops7 => ?_)
      clear hops7
      refine p_run _ (x_move (.int .i64 a) rfl rfl) rfl ?_
      refine w_call [.int .i64 a] Try.func60 (by kernel_rfl) (by rfl) rfl ?_
      refine (isnan_any _ a).mono ?_
      rintro e w' ⟨rfl, rfl⟩
      refine ⟨_, rfl, ?_⟩
      refine p_run _ (x_assign (.bool false) rfl rfl) rfl ?_
      refine wpList_nil ?_
      refine fr_at (l' := (.int .i64 a :: .int .i64 b :: undef :: undef :: .int .i64 0 :: .bool false :: undef :: .int .i64 a :: .bool false :: U8l6 (undef :: undef :: undef :: []))) rfl ?_
      refine hK6 _ _ ?_
      refine wp_seq_k (fun K9 hK10 => ?_)
      refine c_region (fun ops12 hops11 => ?_)
      clear hops11
      refine p_run _ (x_move (.int .i64 b) rfl rfl) rfl ?_
      refine w_call [.int .i64 b] Try.func60 (by kernel_rfl) (by rfl) rfl ?_
      refine (isnan_any _ b).mono ?_
      rintro e w' ⟨rfl, rfl⟩
      refine ⟨_, rfl, ?_⟩
      refine p_run _ (x_assign (.bool false) rfl rfl) rfl ?_
      refine wpList_nil ?_
      refine fr_at (l' := (.int .i64 a :: .int .i64 b :: undef :: undef :: .int .i64 0 :: .bool false :: .bool false :: .int .i64 a :: .bool false :: .int .i64 b :: .bool false :: U8l6 (undef :: []))) rfl ?_
      refine hK10 _ _ ?_
      refine wp_seq_k (fun K13 hK14 => ?_)
      refine wp_seq_k (fun K15 hK16 => ?_)
      refine c_region (fun ops18 hops17 => ?_)
      clear hops17
      refine p_run _ (x_move (.bool false) rfl rfl) rfl ?_
      refine wpList_nil ?_
      refine hK16 _ _ ?_
      refine c_false rfl ?_
      refine wp_skip ?_
      refine hK14 _ _ ?_
      refine wp_seq_k (fun K19 hK20 => ?_)
      refine wp_seq_k (fun K21 hK22 => ?_)
      refine c_region (fun ops24 hops23 => ?_)
      clear hops23
      refine p_run _ (x_move (.bool false) rfl rfl) rfl ?_
      refine wpList_nil ?_
      refine hK22 _ _ ?_
      refine c_false rfl ?_
      refine wp_skip ?_
      refine hK20 _ _ ?_
      refine wp_seq_k (fun K25 hK26 => ?_)
      refine wp_seq_k (fun K27 hK28 => ?_)
      refine c_region (fun ops30 hops29 => ?_)
      clear hops29
      refine p_run _ (x_move (.int .i64 a) rfl rfl) rfl ?_
      refine p_run _ (x_move (.int .i64 b) rfl rfl) rfl ?_
      refine p_run _ (x_cmp (k := .i64) (m := a) (n := b) .lss false rfl rfl rfl (show decide _ = false from decide_eq_false h1) rfl) rfl ?_
      refine wpList_nil ?_
      refine fr_at (l' := (.int .i64 a :: .int .i64 b :: undef :: undef :: .int .i64 0 :: .bool false :: .bool false :: .int .i64 a :: .bool false :: .int .i64 b :: .bool false :: .bool false :: undef :: .bool false :: .int .i64 a :: .int .i64 b :: .bool false :: undef :: undef :: undef :: [])) rfl ?_
      refine hK28 _ _ ?_
      refine c_false rfl ?_
      refine wp_skip ?_
      refine hK26 _ _ ?_
      refine wp_seq_k (fun K31 hK32 => ?_)
      refine wp_seq_k (fun K33 hK34 => ?_)
      refine c_region (fun ops36 hops35 => ?_)
      clear hops35
      refine p_run _ (x_move (.int .i64 a) rfl rfl) rfl ?_
      refine p_run _ (x_move (.int .i64 b) rfl rfl) rfl ?_
      refine p_run _ (x_cmp (k := .i64) (m := a) (n := b) .gtr false rfl rfl rfl (show decide _ = false from decide_eq_false h2) rfl) rfl ?_
      refine wpList_nil ?_
      refine fr_at (l' := (.int .i64 a :: .int .i64 b :: undef :: undef :: .int .i64 0 :: .bool false :: .bool false :: .int .i64 a :: .bool false :: .int .i64 b :: .bool false :: .bool false :: undef :: .bool false :: .int .i64 a :: .int .i64 b :: .bool false :: .int .i64 a :: .int .i64 b :: .bool false :: [])) rfl ?_
      refine hK34 _ _ ?_
      refine c_false rfl ?_
      refine wp_skip ?_
      refine hK32 _ _ ?_
      refine wp_seq_k (fun K37 hK38 => ?_)
      refine c_region (fun ops40 hops39 => ?_)
      clear hops39
      refine p_run _ (x_assign (.int .i64 0) rfl rfl) rfl ?_
      refine wpList_nil ?_
      refine hK38 _ _ ?_
      refine wp_ret ?_
      try simp only [Exit.inBlock, Exit.then]
      refine c_ret (.int .i64 0) (r_tmp rfl rfl) ?_
      have e1 : cmpZ a b = 0 := by unfold cmpZ; rw [if_neg h1, if_neg h2]
      rw [e1]
      exact ⟨rfl, rfl⟩

set_option maxRecDepth 10000 in
theorem at1_any (w : World) (x : Int × Int) (k : Int) : Calls Try.prog 43 #[.agg ([.int .i64 x.1, .int .i64 x.2] : List Value).toArray, .int .i64 k] w fun e w' => e = .returned (.int .i64 (cmpZ x.1 k)) ∧ Below w.heap.size w w' := by
  have HS := St.empty w
  · skip
    refine c_enter Try.func43 rfl 9 rfl [.agg ([.int .i64 x.1, .int .i64 x.2] : List Value).toArray, .int .i64 k, undef, undef, undef, undef, undef, undef, undef] rfl ?_
    refine wp_seq_k (fun K1 hK2 => ?_)
    refine c_region (fun ops4 hops3 => ?_)
    clear hops3
    refine St.wBox HS (cs := [.int .i64 x.1, .int .i64 x.2]) (.agg ([.int .i64 x.1, .int .i64 x.2] : List Value).toArray) rfl rfl ?_
    clear HS
    intro g5 w6 hg7 HS
    refine p_run _ (x_assign (.int .i64 0) rfl rfl) rfl ?_
    refine wpList_nil ?_
    refine hK2 _ _ ?_
    refine wp_seq_k (fun K8 hK9 => ?_)
    refine c_region (fun ops11 hops10 => ?_)
    clear hops10
    refine p_run _ (x_field (j := 0) _ _ rfl rfl Try.underlying62 rfl (by rfl) rfl) rfl ?_
    refine p_run _ (x_load (.int .i64 x.1) rfl rfl (bkCell (HS.get (.head _)) 0 _ rfl) (by rfl)) rfl ?_
    refine p_run _ (x_move (.int .i64 k) rfl rfl) rfl ?_
    refine w_call [.int .i64 x.1, .int .i64 k] Try.func44 (by kernel_rfl) (by rfl) rfl ?_
    refine (compare_any _ x.1 k).mono ?_
    rintro e w' ⟨rfl, rfl⟩
    refine ⟨_, rfl, ?_⟩
    refine fr_to (l' := [.agg ([.int .i64 x.1, .int .i64 x.2] : List Value).toArray, .int .i64 k, .pointer (some ⟨g5, 0, none⟩), undef, .int .i64 0, .pointer (some ⟨g5, 0, none⟩), .int .i64 x.1, .int .i64 k, .int .i64 (cmpZ x.1 k)]) rfl ?_
    refine p_run _ (x_assign (.int .i64 (cmpZ x.1 k)) rfl rfl) rfl ?_
    refine wpList_nil ?_
    refine hK9 _ _ ?_
    refine wp_ret ?_
    try simp only [Exit.inBlock, Exit.then]
    refine c_ret (.int .i64 (cmpZ x.1 k)) (r_tmp rfl rfl) ?_
    exact ⟨rfl, HS.belowOf⟩

theorem wru64 {x : Int} (h : 0 ≤ x ∧ x < 18446744073709551616) : IntKind.u64.wrap x = x := by rw [IntKind.wrap_u64]; omega
/-- Entries, each key not below the one ahead. -/
def sorted (es : List (Int × Int)) : Prop := ∀ (a b : Nat) (x y : Int × Int), a ≤ b → es[a]? = some x → es[b]? = some y → x.1 ≤ y.1
/-- Where a key belongs: ahead of i all are below it, from i on none is. -/
def placed (es : List (Int × Int)) (k : Int) (i : Nat) : Prop := i ≤ es.length ∧ (∀ (m : Nat) (x : Int × Int), m < i → es[m]? = some x → x.1 < k) ∧ ∀ (m : Nat) (x : Int × Int), i ≤ m → es[m]? = some x → k ≤ x.1
theorem half_in {i j n : Nat} (h : i < j) (hj : j ≤ n) : (i + j) / 2 < n ∧ i ≤ (i + j) / 2 ∧ (i + j) / 2 < j := by omega
theorem shr1 (n : Nat) : ((n : Int) / 2 ^ min (1 : Int).toNat (IntKind.bits .u64)) = ((n / 2 : Nat) : Int) := by
  rw [show min (1 : Int).toNat (IntKind.bits .u64) = 1 from by decide]
  omega

set_option maxRecDepth 10000 in
set_option maxHeartbeats 1000000 in
theorem bsearch_any (w : World) (A : Option Addr) (c : Nat) (es : List (Int × Int)) (k : Int) (hr : kEn.C w A es.length es) (hl : es.length ≤ 1000000) (hs : sorted es) : Calls Try.prog 42 #[.slice A es.length c, .int .i64 k, .func (.func 43) #[] [].toArray] w fun e w' => ∃ (i : Nat) (b : Bool), e = .returned (.tuple #[.int .i64 (i : Int), .bool b]) ∧ placed es k i ∧ (b = true ↔ ∃ x, es[i]? = some x ∧ x.1 = k) ∧ Below w.heap.size w w' := by
  have HS := St.empty w
  · skip
    refine c_enter Try.func42 rfl 49 rfl (.slice A es.length c :: .int .i64 k :: .func (.func 43) #[] [].toArray :: U32l6 (U8l6 (U4l6 (undef :: undef :: [])))) rfl ?_
    refine wp_seq_k (fun K1 hK2 => ?_)
    refine c_region (fun ops4 hops3 => ?_)
    clear hops3
    refine p_run _ (x_assign (.int .i64 0) rfl rfl) rfl ?_
    refine p_run _ (x_assign (.bool false) rfl rfl) rfl ?_
    refine wpList_nil ?_
    refine hK2 _ _ ?_
    refine wp_seq_k (fun K5 hK6 => ?_)
    refine c_region (fun ops8 hops7 => ?_)
    clear hops7
    refine p_run _ (x_move (.slice A es.length c) rfl rfl) rfl ?_
    refine p_run _ (x_len rfl rfl Try.underlying50) rfl ?_
    refine p_run _ (x_assign (.int .i64 (es.length : Int)) rfl rfl) rfl ?_
    refine wpList_nil ?_
    refine fr_at (l' := (.slice A es.length c :: .int .i64 k :: .func (.func 43) #[] [].toArray :: undef :: undef :: undef :: .int .i64 0 :: .bool false :: .int .i64 (es.length : Int) :: undef :: undef :: undef :: .slice A es.length c :: .int .i64 (es.length : Int) :: U32l6 (undef :: undef :: undef :: []))) rfl ?_
    refine hK6 _ _ ?_
    refine wp_seq_k (fun K9 hK10 => ?_)
    refine c_region (fun ops12 hops11 => ?_)
    clear hops11
    refine p_run _ (x_move (.int .i64 (es.length : Int)) rfl rfl) rfl ?_
    refine p_run _ (x_assign (.int .i64 0) rfl rfl) rfl ?_
    refine p_run _ (x_assign (.int .i64 (es.length : Int)) rfl rfl) rfl ?_
    refine wpList_nil ?_
    refine fr_at (l' := (.slice A es.length c :: .int .i64 k :: .func (.func 43) #[] [].toArray :: undef :: undef :: undef :: .int .i64 0 :: .bool false :: .int .i64 (es.length : Int) :: .int .i64 0 :: .int .i64 (es.length : Int) :: undef :: .slice A es.length c :: .int .i64 (es.length : Int) :: .int .i64 (es.length : Int) :: U32l6 (undef :: undef :: []))) rfl ?_
    refine hK10 _ _ ?_
    refine wp_seq_k (fun K13 hK14 => ?_)
    refine wp_block ?_
    refine c_loop (ι := Nat × Nat) (fun i_ a_ w_ => match i_ with | (i, j) => ∃ (u11 : Value) (u15 : Value) (u16 : Value) (u17 : Value) (u18 : Value) (u19 : Value) (u20 : Value) (u21 : Value) (u22 : Value) (u23 : Value) (u24 : Value) (u25 : Value) (u26 : Value) (u27 : Value) (u28 : Value) (u29 : Value) (u30 : Value) (u31 : Value) (u32 : Value) (u33 : Value) (u34 : Value), a_ = fr (.slice A es.length c :: .int .i64 k :: .func (.func 43) #[] [].toArray :: undef :: undef :: undef :: .int .i64 0 :: .bool false :: .int .i64 (es.length : Int) :: .int .i64 (i : Int) :: .int .i64 (j : Int) :: u11 :: .slice A es.length c :: .int .i64 (es.length : Int) :: .int .i64 (es.length : Int) :: u15 :: u16 :: u17 :: u18 :: u19 :: u20 :: u21 :: u22 :: u23 :: u24 :: u25 :: u26 :: u27 :: u28 :: u29 :: u30 :: u31 :: u32 :: u33 :: u34 :: U8l6 (U4l6 (undef :: undef :: []))) ∧ St w (fun _ => False) w_ ([]) ∧ (i ≤ j ∧ j ≤ es.length ∧ (∀ m x, m < i → es[m]? = some x → x.1 < k) ∧ (∀ m x, j ≤ m → es[m]? = some x → k ≤ x.1))) (fun i_ => match i_ with | (i, j) => j - i) (0, es.length) ?_ ?_
    · exact ⟨_, _, _, _, _, _, _, _, _, _, _, _, _, _, _, _, _, _, _, _, _, rfl, HS, ⟨Nat.zero_le _, Nat.le_refl _, (fun m x h _ => absurd h (Nat.not_lt_zero m)), (fun m x h hx => absurd (List.getElem?_eq_some_iff.1 hx).1 (by omega))⟩⟩
    · clear HS
      rintro ⟨i, j⟩ a_ w17 ⟨u11, u15, u16, u17, u18, u19, u20, u21, u22, u23, u24, u25, u26, u27, u28, u29, u30, u31, u32, u33, u34, rfl, HS, hI⟩ J15 hJ16
      have hjn := hI.2.1
      have hin := hI.1
      refine wp_seq_k (fun K18 hK19 => ?_)
      refine wp_seq_k (fun K20 hK21 => ?_)
      refine c_region (fun ops23 hops22 => ?_)
      clear hops22
      refine p_run _ (x_move (.int .i64 (i : Int)) rfl rfl) rfl ?_
      refine p_run _ (x_move (.int .i64 (j : Int)) rfl rfl) rfl ?_
      refine p_run _ (x_cmp (k := .i64) (m := (i : Int)) (n := (j : Int)) .lss (decide ((i : Int) < (j : Int))) rfl rfl rfl rfl rfl) rfl ?_
      refine wpList_nil ?_
      refine fr_at (l' := (.slice A es.length c :: .int .i64 k :: .func (.func 43) #[] [].toArray :: undef :: undef :: undef :: .int .i64 0 :: .bool false :: .int .i64 (es.length : Int) :: .int .i64 (i : Int) :: .int .i64 (j : Int) :: u11 :: .slice A es.length c :: .int .i64 (es.length : Int) :: .int .i64 (es.length : Int) :: .int .i64 (i : Int) :: .int .i64 (j : Int) :: .bool (decide ((i : Int) < (j : Int))) :: u18 :: u19 :: u20 :: u21 :: u22 :: u23 :: u24 :: u25 :: u26 :: u27 :: u28 :: u29 :: u30 :: u31 :: u32 :: u33 :: u34 :: U8l6 (U4l6 (undef :: undef :: [])))) rfl ?_
      refine hK21 _ _ ?_
      refine c_cond (t := decide ((i : Int) < (j : Int))) rfl (fun hc24 => ?_) (fun hc24 => ?_)
      · have hij : i < j := by have := of_decide_eq_true hc24; omega
        obtain ⟨hh1, hh2, hh3⟩ := half_in hij hI.2.1
        obtain ⟨ad, x, rfl, hx, hcell⟩ := en_get (Kd.C_below hr HS.belowOf) ((i + j) / 2) hh1
        refine wp_skip ?_
        refine hK19 _ _ ?_
        refine wp_block ?_
        refine wp_seq_k (fun K25 hK26 => ?_)
        refine c_region (fun ops28 hops27 => ?_)
        clear hops27
        refine p_run _ (x_move (.int .i64 (i : Int)) rfl rfl) rfl ?_
        refine p_run _ (x_move (.int .i64 (j : Int)) rfl rfl) rfl ?_
        refine p_run _ (x_arith (k := .i64) (m := (i : Int)) (n := (j : Int)) .add (((i + j : Nat) : Int)) rfl rfl rfl (show IntKind.i64.wrap ((i : Int) + (j : Int)) = ((i + j : Nat) : Int) from ((wr64' (by omega)).trans (by omega))) rfl) rfl ?_
        refine p_run _ (x_conv (k := .i64) (m := ((i + j : Nat) : Int)) .u64 (((i + j : Nat) : Int)) rfl (by rw [Try.underlying3]; rfl) Try.underlying92 rfl (wru64 (by omega))) rfl ?_
        refine p_run _ (x_shr (k := .u64) (m := ((i + j : Nat) : Int)) (n := 1) ((((i + j) / 2 : Nat) : Int)) rfl rfl rfl (by decide) (shr1 _)) rfl ?_
        refine p_run (l' := (.slice (some ad) es.length c :: .int .i64 k :: .func (.func 43) #[] [].toArray :: undef :: undef :: undef :: .int .i64 0 :: .bool false :: .int .i64 (es.length : Int) :: .int .i64 (i : Int) :: .int .i64 (j : Int) :: u11 :: .slice (some ad) es.length c :: .int .i64 (es.length : Int) :: .int .i64 (es.length : Int) :: .int .i64 (i : Int) :: .int .i64 (j : Int) :: .bool (decide ((i : Int) < (j : Int))) :: .int .i64 (i : Int) :: .int .i64 (j : Int) :: .int .i64 ((i + j : Nat) : Int) :: .int .u64 ((i + j : Nat) : Int) :: .int .u64 (((i + j) / 2 : Nat) : Int) :: .int .i64 (((i + j) / 2 : Nat) : Int) :: u24 :: u25 :: u26 :: u27 :: u28 :: u29 :: u30 :: u31 :: u32 :: u33 :: u34 :: U8l6 (U4l6 (undef :: undef :: [])))) _ (x_conv (k := .u64) (m := (((i + j) / 2 : Nat) : Int)) .i64 ((((i + j) / 2 : Nat) : Int)) rfl (by rw [Try.underlying92]; rfl) Try.underlying3 rfl (wr64' (by omega))) rfl ?_
        refine p_run _ (x_assign (.int .i64 (((i + j) / 2 : Nat) : Int)) rfl rfl) rfl ?_
        refine wpList_nil ?_
        refine hK26 _ _ ?_
        refine wp_seq_k (fun K29 hK30 => ?_)
        refine c_region (fun ops32 hops31 => ?_)
        clear hops31
        refine p_run _ (x_move (.func (.func 43) #[] [].toArray) rfl rfl) rfl ?_
        refine p_run _ (x_move (.slice (some ad) es.length c) rfl rfl) rfl ?_
        refine p_run _ (x_move (.int .i64 (((i + j) / 2 : Nat) : Int)) rfl rfl) rfl ?_
        refine p_run _ (x_index (A := ad) (j := ((i + j) / 2 : Nat) * 2) (sz := 2) rfl rfl rfl Try.underlying50 (by kernel_rfl) (by omega) rfl) rfl ?_
        refine p_run (l' := (.slice (some ad) es.length c :: .int .i64 k :: .func (.func 43) #[] [].toArray :: undef :: undef :: undef :: .int .i64 0 :: .bool false :: .int .i64 (es.length : Int) :: .int .i64 (i : Int) :: .int .i64 (j : Int) :: .int .i64 (((i + j) / 2 : Nat) : Int) :: .slice (some ad) es.length c :: .int .i64 (es.length : Int) :: .int .i64 (es.length : Int) :: .int .i64 (i : Int) :: .int .i64 (j : Int) :: .bool (decide ((i : Int) < (j : Int))) :: .int .i64 (i : Int) :: .int .i64 (j : Int) :: .int .i64 ((i + j : Nat) : Int) :: .int .u64 ((i + j : Nat) : Int) :: .int .u64 (((i + j) / 2 : Nat) : Int) :: .int .i64 (((i + j) / 2 : Nat) : Int) :: .func (.func 43) #[] [].toArray :: .slice (some ad) es.length c :: .int .i64 (((i + j) / 2 : Nat) : Int) :: .pointer (some ((ad).add (((i + j) / 2 : Nat) * 2))) :: .agg ([.int .i64 x.1, .int .i64 x.2] : List Value).toArray :: u29 :: u30 :: u31 :: u32 :: u33 :: u34 :: U8l6 (U4l6 (undef :: undef :: [])))) _ (x_loads [.int .i64 x.1, .int .i64 x.2] 2 rfl rfl hcell (by rfl) (by kernel_rfl) rfl) rfl ?_
        refine p_run _ (x_move (.int .i64 k) rfl rfl) rfl ?_
        refine w_callv [.agg ([.int .i64 x.1, .int .i64 x.2] : List Value).toArray, .int .i64 k] [] rfl Try.func43 (by kernel_rfl) (by rfl) rfl ?_
        refine (at1_any _ x k).mono ?_
        rintro e w33 ⟨rfl, hb_⟩
        replace HS := HS.here hb_
        clear hb_
        refine ⟨_, rfl, ?_⟩
        refine p_run _ (x_cmp (k := .i64) (m := (cmpZ x.1 k)) (n := 0) .lss (decide ((cmpZ x.1 k) < 0)) rfl rfl rfl rfl rfl) rfl ?_
        refine wpList_nil ?_
        refine fr_at (l' := (.slice (some ad) es.length c :: .int .i64 k :: .func (.func 43) #[] [].toArray :: undef :: undef :: undef :: .int .i64 0 :: .bool false :: .int .i64 (es.length : Int) :: .int .i64 (i : Int) :: .int .i64 (j : Int) :: .int .i64 (((i + j) / 2 : Nat) : Int) :: .slice (some ad) es.length c :: .int .i64 (es.length : Int) :: .int .i64 (es.length : Int) :: .int .i64 (i : Int) :: .int .i64 (j : Int) :: .bool (decide ((i : Int) < (j : Int))) :: .int .i64 (i : Int) :: .int .i64 (j : Int) :: .int .i64 ((i + j : Nat) : Int) :: .int .u64 ((i + j : Nat) : Int) :: .int .u64 (((i + j) / 2 : Nat) : Int) :: .int .i64 (((i + j) / 2 : Nat) : Int) :: .func (.func 43) #[] [].toArray :: .slice (some ad) es.length c :: .int .i64 (((i + j) / 2 : Nat) : Int) :: .pointer (some ((ad).add (((i + j) / 2 : Nat) * 2))) :: .agg ([.int .i64 x.1, .int .i64 x.2] : List Value).toArray :: .int .i64 k :: .int .i64 (cmpZ x.1 k) :: .bool (decide ((cmpZ x.1 k) < 0)) :: u32 :: u33 :: u34 :: U8l6 (U4l6 (undef :: undef :: [])))) rfl ?_
        refine hK30 _ _ ?_
        refine c_cond (t := decide ((cmpZ x.1 k) < 0)) rfl (fun hc34 => ?_) (fun hc34 => ?_)
        · have hz := @cmpZ_lt x.1 k
          have hz2 : x.1 < k := hz.1 (of_decide_eq_true hc34)
          refine c_region (fun ops36 hops35 => ?_)
          clear hops35
          refine p_run _ (x_move (.int .i64 (((i + j) / 2 : Nat) : Int)) rfl rfl) rfl ?_
          refine p_run _ (x_arith (k := .i64) (m := (((i + j) / 2 : Nat) : Int)) (n := 1) .add ((((i + j) / 2 + 1 : Nat) : Int)) rfl rfl rfl (show IntKind.i64.wrap ((((i + j) / 2 : Nat) : Int) + 1) = (((i + j) / 2 + 1 : Nat) : Int) from ((wr64' (by omega)).trans (by omega))) rfl) rfl ?_
          refine p_run _ (x_assign (.int .i64 (((i + j) / 2 + 1 : Nat) : Int)) rfl rfl) rfl ?_
          refine wpList_nil ?_
          refine fr_at (l' := (.slice (some ad) es.length c :: .int .i64 k :: .func (.func 43) #[] [].toArray :: undef :: undef :: undef :: .int .i64 0 :: .bool false :: .int .i64 (es.length : Int) :: .int .i64 (((i + j) / 2 + 1 : Nat) : Int) :: .int .i64 (j : Int) :: .int .i64 (((i + j) / 2 : Nat) : Int) :: .slice (some ad) es.length c :: .int .i64 (es.length : Int) :: .int .i64 (es.length : Int) :: .int .i64 (i : Int) :: .int .i64 (j : Int) :: .bool (decide ((i : Int) < (j : Int))) :: .int .i64 (i : Int) :: .int .i64 (j : Int) :: .int .i64 ((i + j : Nat) : Int) :: .int .u64 ((i + j : Nat) : Int) :: .int .u64 (((i + j) / 2 : Nat) : Int) :: .int .i64 (((i + j) / 2 : Nat) : Int) :: .func (.func 43) #[] [].toArray :: .slice (some ad) es.length c :: .int .i64 (((i + j) / 2 : Nat) : Int) :: .pointer (some ((ad).add (((i + j) / 2 : Nat) * 2))) :: .agg ([.int .i64 x.1, .int .i64 x.2] : List Value).toArray :: .int .i64 k :: .int .i64 (cmpZ x.1 k) :: .bool (decide ((cmpZ x.1 k) < 0)) :: .int .i64 (((i + j) / 2 : Nat) : Int) :: .int .i64 (((i + j) / 2 + 1 : Nat) : Int) :: u34 :: U8l6 (U4l6 (undef :: undef :: [])))) rfl ?_
          refine hJ16 ((i + j) / 2 + 1, j) _ _ ?_ ?_
          · show j - ((i + j) / 2 + 1) < j - i; omega
          · exact ⟨_, _, _, _, _, _, _, _, _, _, _, _, _, _, _, _, _, _, _, _, _, rfl, HS, ⟨by omega, hI.2.1, (fun m y hm hy => by have := hs m ((i + j) / 2) y x (by omega) hy hx; omega), hI.2.2.2⟩⟩
        · have hz := @cmpZ_lt x.1 k
          have hz2 : ¬ x.1 < k := fun h => of_decide_eq_false hc34 (hz.2 h)
          refine c_region (fun ops38 hops37 => ?_)
          clear hops37
          refine p_run _ (x_move (.int .i64 (((i + j) / 2 : Nat) : Int)) rfl rfl) rfl ?_
          refine p_run _ (x_assign (.int .i64 (((i + j) / 2 : Nat) : Int)) rfl rfl) rfl ?_
          refine wpList_nil ?_
          refine fr_at (l' := (.slice (some ad) es.length c :: .int .i64 k :: .func (.func 43) #[] [].toArray :: undef :: undef :: undef :: .int .i64 0 :: .bool false :: .int .i64 (es.length : Int) :: .int .i64 (i : Int) :: .int .i64 (((i + j) / 2 : Nat) : Int) :: .int .i64 (((i + j) / 2 : Nat) : Int) :: .slice (some ad) es.length c :: .int .i64 (es.length : Int) :: .int .i64 (es.length : Int) :: .int .i64 (i : Int) :: .int .i64 (j : Int) :: .bool (decide ((i : Int) < (j : Int))) :: .int .i64 (i : Int) :: .int .i64 (j : Int) :: .int .i64 ((i + j : Nat) : Int) :: .int .u64 ((i + j : Nat) : Int) :: .int .u64 (((i + j) / 2 : Nat) : Int) :: .int .i64 (((i + j) / 2 : Nat) : Int) :: .func (.func 43) #[] [].toArray :: .slice (some ad) es.length c :: .int .i64 (((i + j) / 2 : Nat) : Int) :: .pointer (some ((ad).add (((i + j) / 2 : Nat) * 2))) :: .agg ([.int .i64 x.1, .int .i64 x.2] : List Value).toArray :: .int .i64 k :: .int .i64 (cmpZ x.1 k) :: .bool (decide ((cmpZ x.1 k) < 0)) :: u32 :: u33 :: .int .i64 (((i + j) / 2 : Nat) : Int) :: U8l6 (U4l6 (undef :: undef :: [])))) rfl ?_
          refine hJ16 (i, (i + j) / 2) _ _ ?_ ?_
          · show (i + j) / 2 - i < j - i; omega
          · exact ⟨_, _, _, _, _, _, _, _, _, _, _, _, _, _, _, _, _, _, _, _, _, rfl, HS, ⟨by omega, by omega, hI.2.2.1, (fun m y hm hy => by have := hs ((i + j) / 2) m x y hm hx hy; omega)⟩⟩
      · have hij : i = j := by have := of_decide_eq_false hc24; have := hI.1; omega
        subst hij
        refine wp_exit ?_
        refine hK14 _ _ ?_
        refine wp_seq_k (fun K39 hK40 => ?_)
        rcases Nat.lt_or_ge i es.length with h1 | h1
        · skip
          obtain ⟨ad, x, rfl, hx, hcell⟩ := en_get (Kd.C_below hr HS.belowOf) i h1
          refine c_region (fun ops42 hops41 => ?_)
          refine p_run _ (x_move (.int .i64 (i : Int)) rfl rfl) rfl ?_
          refine p_run _ (x_move (.int .i64 (i : Int)) rfl rfl) rfl ?_
          refine p_run _ (x_move (.int .i64 (es.length : Int)) rfl rfl) rfl ?_
          refine p_run _ (x_cmp (k := .i64) (m := (i : Int)) (n := (es.length : Int)) .lss true rfl rfl rfl (show decide _ = true from decide_eq_true (by omega)) rfl) rfl ?_
          refine p_run _ (x_move (.bool true) rfl rfl) rfl ?_
          refine p_on rfl (by rw [hops41]; rfl) ?_
          refine p_run (l' := (.slice (some ad) es.length c :: .int .i64 k :: .func (.func 43) #[] [].toArray :: undef :: undef :: undef :: .int .i64 0 :: .bool false :: .int .i64 (es.length : Int) :: .int .i64 (i : Int) :: .int .i64 (i : Int) :: u11 :: .slice (some ad) es.length c :: .int .i64 (es.length : Int) :: .int .i64 (es.length : Int) :: .int .i64 (i : Int) :: .int .i64 (i : Int) :: .bool (decide ((i : Int) < (i : Int))) :: u18 :: u19 :: u20 :: u21 :: u22 :: u23 :: u24 :: u25 :: u26 :: u27 :: u28 :: u29 :: u30 :: u31 :: u32 :: u33 :: u34 :: .int .i64 (i : Int) :: .int .i64 (i : Int) :: .int .i64 (es.length : Int) :: .bool true :: .bool true :: .func (.func 43) #[] [].toArray :: U8l6 ([]))) _ (x_move (.func (.func 43) #[] [].toArray) rfl rfl) rfl ?_
          refine p_on rfl (by rw [hops41]; rfl) ?_
          refine p_run _ (x_move (.slice (some ad) es.length c) rfl rfl) rfl ?_
          refine p_on rfl (by rw [hops41]; rfl) ?_
          refine p_run _ (x_move (.int .i64 (i : Int)) rfl rfl) rfl ?_
          refine p_on rfl (by rw [hops41]; rfl) ?_
          refine p_run _ (x_index (A := ad) (j := i * 2) (sz := 2) rfl rfl rfl Try.underlying50 (by kernel_rfl) (by omega) rfl) rfl ?_
          refine p_on rfl (by rw [hops41]; rfl) ?_
          refine p_run _ (x_loads [.int .i64 x.1, .int .i64 x.2] 2 rfl rfl hcell (by rfl) (by kernel_rfl) rfl) rfl ?_
          refine p_on rfl (by rw [hops41]; rfl) ?_
          refine p_run _ (x_move (.int .i64 k) rfl rfl) rfl ?_
          refine p_on rfl (by rw [hops41]; rfl) ?_
          refine w_callv [.agg ([.int .i64 x.1, .int .i64 x.2] : List Value).toArray, .int .i64 k] [] rfl Try.func43 (by kernel_rfl) (by rfl) rfl ?_
          refine (at1_any _ x k).mono ?_
          rintro e w43 ⟨rfl, hb_⟩
          replace HS := HS.here hb_
          clear hb_
          refine ⟨_, rfl, ?_⟩
          refine fr_to (l' := (.slice (some ad) es.length c :: .int .i64 k :: .func (.func 43) #[] [].toArray :: undef :: undef :: undef :: .int .i64 0 :: .bool false :: .int .i64 (es.length : Int) :: .int .i64 (i : Int) :: .int .i64 (i : Int) :: u11 :: .slice (some ad) es.length c :: .int .i64 (es.length : Int) :: .int .i64 (es.length : Int) :: .int .i64 (i : Int) :: .int .i64 (i : Int) :: .bool (decide ((i : Int) < (i : Int))) :: u18 :: u19 :: u20 :: u21 :: u22 :: u23 :: u24 :: u25 :: u26 :: u27 :: u28 :: u29 :: u30 :: u31 :: u32 :: u33 :: u34 :: .int .i64 (i : Int) :: .int .i64 (i : Int) :: .int .i64 (es.length : Int) :: .bool true :: .bool true :: .func (.func 43) #[] [].toArray :: .slice (some ad) es.length c :: .int .i64 (i : Int) :: .pointer (some ((ad).add (i * 2))) :: .agg ([.int .i64 x.1, .int .i64 x.2] : List Value).toArray :: .int .i64 k :: .int .i64 (cmpZ x.1 k) :: undef :: undef :: [])) rfl ?_
          refine p_on rfl (by rw [hops41]; rfl) ?_
          refine p_run _ (x_cmp (k := .i64) (m := (cmpZ x.1 k)) (n := 0) .eql ((cmpZ x.1 k) == 0) rfl rfl rfl rfl rfl) rfl ?_
          refine p_run _ (x_pick true (.bool ((cmpZ x.1 k) == 0)) (.bool false) (.bool ((cmpZ x.1 k) == 0)) rfl rfl rfl rfl rfl) rfl ?_
          refine p_run _ (x_assign (.int .i64 (i : Int)) rfl rfl) rfl ?_
          refine p_run _ (x_assign (.bool ((cmpZ x.1 k) == 0)) rfl rfl) rfl ?_
          clear hops41
          refine wpList_nil ?_
          refine fr_at (l' := (.slice (some ad) es.length c :: .int .i64 k :: .func (.func 43) #[] [].toArray :: undef :: undef :: undef :: .int .i64 (i : Int) :: .bool ((cmpZ x.1 k) == 0) :: .int .i64 (es.length : Int) :: .int .i64 (i : Int) :: .int .i64 (i : Int) :: u11 :: .slice (some ad) es.length c :: .int .i64 (es.length : Int) :: .int .i64 (es.length : Int) :: .int .i64 (i : Int) :: .int .i64 (i : Int) :: .bool (decide ((i : Int) < (i : Int))) :: u18 :: u19 :: u20 :: u21 :: u22 :: u23 :: u24 :: u25 :: u26 :: u27 :: u28 :: u29 :: u30 :: u31 :: u32 :: u33 :: u34 :: .int .i64 (i : Int) :: .int .i64 (i : Int) :: .int .i64 (es.length : Int) :: .bool true :: .bool true :: .func (.func 43) #[] [].toArray :: .slice (some ad) es.length c :: .int .i64 (i : Int) :: .pointer (some ((ad).add (i * 2))) :: .agg ([.int .i64 x.1, .int .i64 x.2] : List Value).toArray :: .int .i64 k :: .int .i64 (cmpZ x.1 k) :: .bool ((cmpZ x.1 k) == 0) :: .bool ((cmpZ x.1 k) == 0) :: [])) rfl ?_
          refine hK40 _ _ ?_
          refine wp_ret ?_
          try simp only [Exit.inBlock, Exit.then]
          refine c_ret (.tuple [.int .i64 (i : Int), .bool ((cmpZ x.1 k) == 0)].toArray) (r_tmp2 rfl rfl rfl) ?_
          have hz := @cmpZ_eq x.1 k
          exact ⟨i, _, rfl, ⟨hI.2.1, hI.2.2.1, hI.2.2.2⟩, ⟨(fun h => ⟨x, hx, hz.1 (by simpa using h)⟩), (fun ⟨y, hy, he⟩ => by rw [hx] at hy; injection hy with hy; subst hy; simpa using hz.2 he)⟩, HS.belowOf⟩
        · skip
          refine c_region (fun ops45 hops44 => ?_)
          refine p_run _ (x_move (.int .i64 (i : Int)) rfl rfl) rfl ?_
          refine p_run _ (x_move (.int .i64 (i : Int)) rfl rfl) rfl ?_
          refine p_run _ (x_move (.int .i64 (es.length : Int)) rfl rfl) rfl ?_
          refine p_run _ (x_cmp (k := .i64) (m := (i : Int)) (n := (es.length : Int)) .lss false rfl rfl rfl (show decide _ = false from decide_eq_false (by omega)) rfl) rfl ?_
          refine p_run _ (x_move (.bool false) rfl rfl) rfl ?_
          refine p_off (l' := (.slice A es.length c :: .int .i64 k :: .func (.func 43) #[] [].toArray :: undef :: undef :: undef :: .int .i64 0 :: .bool false :: .int .i64 (es.length : Int) :: .int .i64 (i : Int) :: .int .i64 (i : Int) :: u11 :: .slice A es.length c :: .int .i64 (es.length : Int) :: .int .i64 (es.length : Int) :: .int .i64 (i : Int) :: .int .i64 (i : Int) :: .bool (decide ((i : Int) < (i : Int))) :: u18 :: u19 :: u20 :: u21 :: u22 :: u23 :: u24 :: u25 :: u26 :: u27 :: u28 :: u29 :: u30 :: u31 :: u32 :: u33 :: u34 :: .int .i64 (i : Int) :: .int .i64 (i : Int) :: .int .i64 (es.length : Int) :: .bool false :: .bool false :: U8l6 (undef :: []))) (by rw [hops44]; rfl) rfl ?_
          refine p_off (by rw [hops44]; rfl) rfl ?_
          refine p_off (by rw [hops44]; rfl) rfl ?_
          refine p_off (by rw [hops44]; rfl) rfl ?_
          refine p_off (by rw [hops44]; rfl) rfl ?_
          refine p_off (by rw [hops44]; rfl) rfl ?_
          refine p_off (l' := (.slice A es.length c :: .int .i64 k :: .func (.func 43) #[] [].toArray :: undef :: undef :: undef :: .int .i64 0 :: .bool false :: .int .i64 (es.length : Int) :: .int .i64 (i : Int) :: .int .i64 (i : Int) :: u11 :: .slice A es.length c :: .int .i64 (es.length : Int) :: .int .i64 (es.length : Int) :: .int .i64 (i : Int) :: .int .i64 (i : Int) :: .bool (decide ((i : Int) < (i : Int))) :: u18 :: u19 :: u20 :: u21 :: u22 :: u23 :: u24 :: u25 :: u26 :: u27 :: u28 :: u29 :: u30 :: u31 :: u32 :: u33 :: u34 :: .int .i64 (i : Int) :: .int .i64 (i : Int) :: .int .i64 (es.length : Int) :: .bool false :: .bool false :: U8l6 (undef :: []))) (by rw [hops44]; rfl) rfl ?_
          refine p_off (by rw [hops44]; rfl) rfl ?_
          refine p_run _ (x_pick false (undef) (.bool false) (.bool false) rfl rfl rfl rfl rfl) rfl ?_
          refine p_run _ (x_assign (.int .i64 (i : Int)) rfl rfl) rfl ?_
          refine p_run _ (x_assign (.bool false) rfl rfl) rfl ?_
          clear hops44
          refine wpList_nil ?_
          refine fr_at (l' := (.slice A es.length c :: .int .i64 k :: .func (.func 43) #[] [].toArray :: undef :: undef :: undef :: .int .i64 (i : Int) :: .bool false :: .int .i64 (es.length : Int) :: .int .i64 (i : Int) :: .int .i64 (i : Int) :: u11 :: .slice A es.length c :: .int .i64 (es.length : Int) :: .int .i64 (es.length : Int) :: .int .i64 (i : Int) :: .int .i64 (i : Int) :: .bool (decide ((i : Int) < (i : Int))) :: u18 :: u19 :: u20 :: u21 :: u22 :: u23 :: u24 :: u25 :: u26 :: u27 :: u28 :: u29 :: u30 :: u31 :: u32 :: u33 :: u34 :: .int .i64 (i : Int) :: .int .i64 (i : Int) :: .int .i64 (es.length : Int) :: .bool false :: .bool false :: U8l6 (.bool false :: []))) rfl ?_
          refine hK40 _ _ ?_
          refine wp_ret ?_
          try simp only [Exit.inBlock, Exit.then]
          refine c_ret (.tuple [.int .i64 (i : Int), .bool false].toArray) (r_tmp2 rfl rfl rfl) ?_
          exact ⟨i, _, rfl, ⟨hI.2.1, hI.2.2.1, hI.2.2.2⟩, ⟨(fun h => by cases h), (fun ⟨y, hy, he⟩ => absurd (List.getElem?_eq_some_iff.1 hy).1 (by omega))⟩, HS.belowOf⟩

set_option maxRecDepth 10000 in
theorem lat_any (w : World) (A : Option Addr) (c : Nat) (es : List (Int × Int)) (k : Int) (hr : kEn.C w A es.length es) (hl : es.length ≤ 1000000) (hs : sorted es) : Calls Try.prog 29 #[.slice A es.length c, .int .i64 k] w fun e w' => ∃ r : Int, e = .returned (.int .i64 r) ∧ ∃ i : Nat, placed es k i ∧ ((r = (i : Int) ∧ ∃ x, es[i]? = some x ∧ x.1 = k) ∨ (r = (i : Int) - 1 ∧ ¬ ∃ x, es[i]? = some x ∧ x.1 = k)) ∧ Below w.heap.size w w' := by
  have HS := St.empty w
  · skip
    refine c_enter Try.func29 rfl 17 rfl (.slice A es.length c :: .int .i64 k :: U8l6 (U4l6 (undef :: undef :: undef :: []))) rfl ?_
    refine wp_seq_k (fun K1 hK2 => ?_)
    refine c_region (fun ops4 hops3 => ?_)
    clear hops3
    refine p_run _ (x_assign (.int .i64 0) rfl rfl) rfl ?_
    refine wpList_nil ?_
    refine hK2 _ _ ?_
    refine wp_seq_k (fun K5 hK6 => ?_)
    refine c_region (fun ops8 hops7 => ?_)
    clear hops7
    refine p_run _ (x_move (.slice A es.length c) rfl rfl) rfl ?_
    refine p_run _ (x_move (.int .i64 k) rfl rfl) rfl ?_
    refine w_call [.slice A es.length c, .int .i64 k, .func (.func 43) #[] [].toArray] Try.func42 (by kernel_rfl) (by rfl) rfl ?_
    refine (bsearch_any _ A c es k (Kd.C_below hr HS.belowOf) hl hs).mono ?_
    rintro e w9 ⟨i, b, rfl, hp, hbi, hb_⟩
    replace HS := HS.here hb_
    clear hb_
    have hpl := hp.1
    refine ⟨_, rfl, ?_⟩
    refine p_run _ (x_move (.tuple [.int .i64 (i : Int), .bool b].toArray) rfl rfl) rfl ?_
    refine p_run (l' := (.slice A es.length c :: .int .i64 k :: undef :: undef :: .int .i64 0 :: undef :: undef :: .tuple [.int .i64 (i : Int), .bool b].toArray :: .slice A es.length c :: .int .i64 k :: .tuple [.int .i64 (i : Int), .bool b].toArray :: .int .i64 (i : Int) :: U4l6 (undef :: []))) _ (x_extract (vs := [.int .i64 (i : Int), .bool b]) 0 (.int .i64 (i : Int)) rfl rfl rfl) rfl ?_
    refine p_run _ (x_extract (vs := [.int .i64 (i : Int), .bool b]) 1 (.bool b) rfl rfl rfl) rfl ?_
    refine p_run _ (x_assign (.int .i64 (i : Int)) rfl rfl) rfl ?_
    refine p_run _ (x_assign (.bool b) rfl rfl) rfl ?_
    refine wpList_nil ?_
    refine fr_at (l' := (.slice A es.length c :: .int .i64 k :: undef :: undef :: .int .i64 0 :: .int .i64 (i : Int) :: .bool b :: .tuple [.int .i64 (i : Int), .bool b].toArray :: .slice A es.length c :: .int .i64 k :: .tuple [.int .i64 (i : Int), .bool b].toArray :: .int .i64 (i : Int) :: .bool b :: U4l6 ([]))) rfl ?_
    refine hK6 _ _ ?_
    refine wp_seq_k (fun K10 hK11 => ?_)
    refine wp_seq_k (fun K12 hK13 => ?_)
    refine c_region (fun ops15 hops14 => ?_)
    clear hops14
    refine p_run _ (x_move (.bool b) rfl rfl) rfl ?_
    refine wpList_nil ?_
    refine hK13 _ _ ?_
    refine c_cond (t := b) rfl (fun hc16 => ?_) (fun hc16 => ?_)
    · have hb0 := hc16
      refine wp_seq_k (fun K17 hK18 => ?_)
      refine c_region (fun ops20 hops19 => ?_)
      clear hops19
      refine p_run _ (x_move (.int .i64 (i : Int)) rfl rfl) rfl ?_
      refine p_run _ (x_assign (.int .i64 (i : Int)) rfl rfl) rfl ?_
      refine wpList_nil ?_
      refine fr_at (l' := (.slice A es.length c :: .int .i64 k :: undef :: undef :: .int .i64 (i : Int) :: .int .i64 (i : Int) :: .bool b :: .tuple [.int .i64 (i : Int), .bool b].toArray :: .slice A es.length c :: .int .i64 k :: .tuple [.int .i64 (i : Int), .bool b].toArray :: .int .i64 (i : Int) :: .bool b :: .bool b :: .int .i64 (i : Int) :: undef :: undef :: [])) rfl ?_
      refine hK18 _ _ ?_
      refine wp_ret ?_
      try simp only [Exit.inBlock, Exit.then]
      refine c_ret (.int .i64 (i : Int)) (r_tmp rfl rfl) ?_
      exact ⟨_, rfl, i, hp, .inl ⟨rfl, hbi.1 hb0⟩, HS.belowOf⟩
    · have hb0 := hc16
      refine wp_skip ?_
      refine hK11 _ _ ?_
      refine wp_seq_k (fun K21 hK22 => ?_)
      refine c_region (fun ops24 hops23 => ?_)
      clear hops23
      refine p_run _ (x_move (.int .i64 (i : Int)) rfl rfl) rfl ?_
      refine p_run _ (x_arith (k := .i64) (m := (i : Int)) (n := 1) .sub (((i : Int) - 1)) rfl rfl rfl (show IntKind.i64.wrap ((i : Int) - 1) = ((i : Int) - 1) from (wr64' (by omega))) rfl) rfl ?_
      refine p_run _ (x_assign (.int .i64 ((i : Int) - 1)) rfl rfl) rfl ?_
      refine wpList_nil ?_
      refine fr_at (l' := (.slice A es.length c :: .int .i64 k :: undef :: undef :: .int .i64 ((i : Int) - 1) :: .int .i64 (i : Int) :: .bool b :: .tuple [.int .i64 (i : Int), .bool b].toArray :: .slice A es.length c :: .int .i64 k :: .tuple [.int .i64 (i : Int), .bool b].toArray :: .int .i64 (i : Int) :: .bool b :: .bool b :: undef :: .int .i64 (i : Int) :: .int .i64 ((i : Int) - 1) :: [])) rfl ?_
      refine hK22 _ _ ?_
      refine wp_ret ?_
      try simp only [Exit.inBlock, Exit.then]
      refine c_ret (.int .i64 ((i : Int) - 1)) (r_tmp rfl rfl) ?_
      exact ⟨_, rfl, i, hp, .inr ⟨rfl, fun h => by rw [hbi.2 h] at hb0; cases hb0⟩, HS.belowOf⟩
end Go.Proofs.Ytiokdpnhaemciaa
