/- The reference of net: There, Send, Without. -/
import Derived.Test.YtckfcnclekjjdaaLn1
set_option linter.unusedVariables false
set_option linter.unusedSimpArgs false
namespace Go.Proofs.Ytckfcnclekjjdaa
open Go.RowKit Go.Proofs.YtckfcnclekjjdaaW.PrintWords Go.Proofs.YtckfcnclekjjdaaW.PrintLast Crc
section
variable {w0 W : World} {F : Nat → Prop} {L : List Res} {v : Value} {N : List (Int × List UInt8)}
def rp (N : List (Int × List UInt8)) : List (Int × Value) := N.map (fun x => (x.1, .string (strB x.2)))
theorem rp_length (N : List (Int × List UInt8)) : (rp N).length = N.length := List.length_map _
theorem rp_get {i : Nat} {x : Int × List UInt8} (h : N[i]? = some x) : (rp N)[i]? = some (x.1, .string (strB x.2)) := by unfold rp; rw [List.getElem?_map, h]; rfl
theorem rp_one : ∀ p ∈ rp N, p.2.oneCell' = true := fun p hp => by
  obtain ⟨x, -, rfl⟩ := List.mem_map.1 hp
  rfl
theorem rp_snoc (x : Int × List UInt8) : rp (N ++ [x]) = rp N ++ [(x.1, .string (strB x.2))] := by unfold rp; rw [List.map_append]; rfl
def rTh (N : List (Int × List UInt8)) (i : Int) : Bool := decide (0 ≤ i ∧ i < (N.length : Int))

set_option maxRecDepth 10000 in
theorem rThere_any (HS : St w0 F W (row kPk rfl 58 v (rp N) :: L)) (i : Int) : Calls Try.prog 31 #[v, .int .i64 i] W fun e w' => e = .returned (.bool (rTh N i)) ∧ w' = W := by
  obtain ⟨A, c, hv, hcap, -⟩ := row_reads (HS.get (.head _))
  rw [rp_length] at hv hcap
  subst hv
  by_cases h00 : 0 ≤ i
  · skip
    have h0 : decide (i ≥ 0) = true := decide_eq_true h00
    by_cases h11 : i < (N.length : Int)
    · skip
      have h1 := decide_eq_true h11
      refine c_enter Try.func31 rfl 13 rfl [.slice A N.length c, .int .i64 i, undef, undef, undef, undef, undef, undef, undef, undef, undef, undef, undef] rfl ?_
      refine wp_seq_k (fun K1 hK2 => ?_)
      refine c_region (fun ops4 hops3 => ?_)
      clear hops3
      refine p_run (l' := _) _ (x_assign (.bool false) rfl rfl) rfl ?_
      refine wpList_nil ?_
      refine fr_at (l' := [.slice A N.length c, .int .i64 i, undef, undef, .bool false, undef, undef, undef, undef, undef, undef, undef, undef]) rfl ?_
      refine hK2 _ _ ?_
      refine wp_seq_k (fun K5 hK6 => ?_)
      refine c_region (fun ops8 hops7 => ?_)
      refine p_run (l' := _) _ (x_move (.int .i64 i) rfl rfl) rfl ?_
      refine p_run (l' := _) _ (x_cmp (k := .i64) (m := i) (n := 0) .geq true rfl rfl rfl h0 rfl) rfl ?_
      refine p_run (l' := _) _ (x_move (.bool true) rfl rfl) rfl ?_
      refine p_on rfl (by rw [hops7]; rfl) ?_
      refine p_run (l' := [.slice A N.length c, .int .i64 i, undef, undef, .bool false, .int .i64 i, .bool true, .bool true, .int .i64 i, undef, undef, undef, undef]) _ (x_move (.int .i64 i) rfl rfl) rfl ?_
      refine p_on rfl (by rw [hops7]; rfl) ?_
      refine p_run (l' := _) _ (x_move (.slice A N.length c) rfl rfl) rfl ?_
      refine p_on rfl (by rw [hops7]; rfl) ?_
      refine p_run (l' := _) _ (x_len rfl rfl Try.underlying52) rfl ?_
      refine p_on rfl (by rw [hops7]; rfl) ?_
      refine p_run (l' := _) _ (x_cmp (k := .i64) (m := i) (n := (N.length : Int)) .lss true rfl rfl rfl h1 rfl) rfl ?_
      refine p_run (l' := [.slice A N.length c, .int .i64 i, undef, undef, .bool false, .int .i64 i, .bool true, .bool true, .int .i64 i, .slice A N.length c, .int .i64 (N.length : Int), .bool true, .bool true]) _ (x_pick true (.bool true) (.bool false) (.bool true) rfl rfl rfl rfl rfl) rfl ?_
      refine p_run (l' := _) _ (x_assign (.bool true) rfl rfl) rfl ?_
      clear hops7
      refine wpList_nil ?_
      refine fr_at (l' := [.slice A N.length c, .int .i64 i, undef, undef, .bool true, .int .i64 i, .bool true, .bool true, .int .i64 i, .slice A N.length c, .int .i64 (N.length : Int), .bool true, .bool true]) rfl ?_
      refine hK6 _ _ ?_
      refine wp_ret ?_
      try simp only [Exit.inBlock, Exit.then]
      refine c_ret (.bool true) (r_tmp rfl rfl) ?_
      exact ⟨by rw [show rTh N i = true from decide_eq_true ⟨h00, h11⟩], rfl⟩
    · skip
      have h1 := decide_eq_false h11
      refine c_enter Try.func31 rfl 13 rfl [.slice A N.length c, .int .i64 i, undef, undef, undef, undef, undef, undef, undef, undef, undef, undef, undef] rfl ?_
      refine wp_seq_k (fun K1 hK2 => ?_)
      refine c_region (fun ops4 hops3 => ?_)
      clear hops3
      refine p_run (l' := _) _ (x_assign (.bool false) rfl rfl) rfl ?_
      refine wpList_nil ?_
      refine fr_at (l' := [.slice A N.length c, .int .i64 i, undef, undef, .bool false, undef, undef, undef, undef, undef, undef, undef, undef]) rfl ?_
      refine hK2 _ _ ?_
      refine wp_seq_k (fun K5 hK6 => ?_)
      refine c_region (fun ops8 hops7 => ?_)
      refine p_run (l' := _) _ (x_move (.int .i64 i) rfl rfl) rfl ?_
      refine p_run (l' := _) _ (x_cmp (k := .i64) (m := i) (n := 0) .geq true rfl rfl rfl h0 rfl) rfl ?_
      refine p_run (l' := _) _ (x_move (.bool true) rfl rfl) rfl ?_
      refine p_on rfl (by rw [hops7]; rfl) ?_
      refine p_run (l' := [.slice A N.length c, .int .i64 i, undef, undef, .bool false, .int .i64 i, .bool true, .bool true, .int .i64 i, undef, undef, undef, undef]) _ (x_move (.int .i64 i) rfl rfl) rfl ?_
      refine p_on rfl (by rw [hops7]; rfl) ?_
      refine p_run (l' := _) _ (x_move (.slice A N.length c) rfl rfl) rfl ?_
      refine p_on rfl (by rw [hops7]; rfl) ?_
      refine p_run (l' := _) _ (x_len rfl rfl Try.underlying52) rfl ?_
      refine p_on rfl (by rw [hops7]; rfl) ?_
      refine p_run (l' := _) _ (x_cmp (k := .i64) (m := i) (n := (N.length : Int)) .lss false rfl rfl rfl h1 rfl) rfl ?_
      refine p_run (l' := [.slice A N.length c, .int .i64 i, undef, undef, .bool false, .int .i64 i, .bool true, .bool true, .int .i64 i, .slice A N.length c, .int .i64 (N.length : Int), .bool false, .bool false]) _ (x_pick true (.bool false) (.bool false) (.bool false) rfl rfl rfl rfl rfl) rfl ?_
      refine p_run (l' := _) _ (x_assign (.bool false) rfl rfl) rfl ?_
      clear hops7
      refine wpList_nil ?_
      refine fr_at (l' := [.slice A N.length c, .int .i64 i, undef, undef, .bool false, .int .i64 i, .bool true, .bool true, .int .i64 i, .slice A N.length c, .int .i64 (N.length : Int), .bool false, .bool false]) rfl ?_
      refine hK6 _ _ ?_
      refine wp_ret ?_
      try simp only [Exit.inBlock, Exit.then]
      refine c_ret (.bool false) (r_tmp rfl rfl) ?_
      exact ⟨by rw [show rTh N i = false from decide_eq_false (fun h => h11 h.2)], rfl⟩
  · skip
    have h0 : decide (i ≥ 0) = false := decide_eq_false h00
    refine c_enter Try.func31 rfl 13 rfl [.slice A N.length c, .int .i64 i, undef, undef, undef, undef, undef, undef, undef, undef, undef, undef, undef] rfl ?_
    refine wp_seq_k (fun K1 hK2 => ?_)
    refine c_region (fun ops4 hops3 => ?_)
    clear hops3
    refine p_run (l' := _) _ (x_assign (.bool false) rfl rfl) rfl ?_
    refine wpList_nil ?_
    refine fr_at (l' := [.slice A N.length c, .int .i64 i, undef, undef, .bool false, undef, undef, undef, undef, undef, undef, undef, undef]) rfl ?_
    refine hK2 _ _ ?_
    refine wp_seq_k (fun K5 hK6 => ?_)
    refine c_region (fun ops8 hops7 => ?_)
    refine p_run (l' := _) _ (x_move (.int .i64 i) rfl rfl) rfl ?_
    refine p_run (l' := _) _ (x_cmp (k := .i64) (m := i) (n := 0) .geq false rfl rfl rfl h0 rfl) rfl ?_
    refine p_run (l' := _) _ (x_move (.bool false) rfl rfl) rfl ?_
    refine p_off (l' := [.slice A N.length c, .int .i64 i, undef, undef, .bool false, .int .i64 i, .bool false, .bool false, undef, undef, undef, undef, undef]) (by rw [hops7]; rfl) rfl ?_
    refine p_off (l' := _) (by rw [hops7]; rfl) rfl ?_
    refine p_off (l' := _) (by rw [hops7]; rfl) rfl ?_
    refine p_off (l' := _) (by rw [hops7]; rfl) rfl ?_
    refine p_run (l' := [.slice A N.length c, .int .i64 i, undef, undef, .bool false, .int .i64 i, .bool false, .bool false, undef, undef, undef, undef, .bool false]) _ (x_pick false (undef) (.bool false) (.bool false) rfl rfl rfl rfl rfl) rfl ?_
    refine p_run (l' := _) _ (x_assign (.bool false) rfl rfl) rfl ?_
    clear hops7
    refine wpList_nil ?_
    refine fr_at (l' := [.slice A N.length c, .int .i64 i, undef, undef, .bool false, .int .i64 i, .bool false, .bool false, undef, undef, undef, undef, .bool false]) rfl ?_
    refine hK6 _ _ ?_
    refine wp_ret ?_
    try simp only [Exit.inBlock, Exit.then]
    refine c_ret (.bool false) (r_tmp rfl rfl) ?_
    exact ⟨by rw [show rTh N i = false from decide_eq_false (fun h => h00 h.1)], rfl⟩

set_option maxRecDepth 10000 in
set_option maxHeartbeats 1000000 in
theorem rSend_any (HS : St w0 F W (row kPk rfl 58 v (rp N) :: L)) (tt : Int) (xs : List UInt8) (hN : N.length ≤ 1000) : Calls Try.prog 32 #[v, .int .i64 tt, .string (strB xs)] W fun e w' => ∃ v', e = .returned v' ∧ St w0 F w' (row kPk rfl 58 v' (rp (nSend N tt xs)) :: L) := by
  obtain ⟨A, c, hv, hcap, -⟩ := row_reads (HS.get (.head _))
  rw [rp_length] at hv hcap
  subst hv
  · skip
    by_cases h0 : tt = 0
    · skip
      by_cases h22 : (N.length : Int) ≥ 64
      · skip
        have h2 : decide ((N.length : Int) ≥ 64) = true := decide_eq_true h22
        refine c_enter Try.func32 rfl 27 rfl [.slice A N.length c, .int .i64 tt, .string (strB xs), undef, undef, undef, undef, undef, undef, undef, undef, undef, undef, undef, undef, undef, undef, undef, undef, undef, undef, undef, undef, undef, undef, undef, undef] rfl ?_
        refine wp_seq_k (fun K1 hK2 => ?_)
        refine c_region (fun ops4 hops3 => ?_)
        clear hops3
        refine p_run (l' := _) _ (x_assign (.slice none 0 0) rfl rfl) rfl ?_
        refine wpList_nil ?_
        refine fr_at (l' := [.slice A N.length c, .int .i64 tt, .string (strB xs), undef, undef, undef, .slice none 0 0, undef, undef, undef, undef, undef, undef, undef, undef, undef, undef, undef, undef, undef, undef, undef, undef, undef, undef, undef, undef]) rfl ?_
        refine hK2 _ _ ?_
        refine wp_seq_k (fun K5 hK6 => ?_)
        refine wp_seq_k (fun K7 hK8 => ?_)
        refine c_region (fun ops10 hops9 => ?_)
        refine p_run (l' := _) _ (x_move (.int .i64 tt) rfl rfl) rfl ?_
        refine p_run (l' := _) _ (x_cmp (k := .i64) (m := tt) (n := 0) .neq false rfl rfl rfl (by rw [h0]; decide) rfl) rfl ?_
        refine p_run (l' := _) _ (x_move (.bool false) rfl rfl) rfl ?_
        refine p_off (l' := [.slice A N.length c, .int .i64 tt, .string (strB xs), undef, undef, undef, .slice none 0 0, .int .i64 tt, .bool false, .bool false, undef, undef, undef, undef, undef, undef, undef, undef, undef, undef, undef, undef, undef, undef, undef, undef, undef]) (by rw [hops9]; rfl) rfl ?_
        refine p_off (l' := _) (by rw [hops9]; rfl) rfl ?_
        refine p_run (l' := _) _ (x_pick false (undef) (.bool false) (.bool false) rfl rfl rfl rfl rfl) rfl ?_
        refine p_run (l' := _) _ (x_move (.bool false) rfl rfl) rfl ?_
        refine p_on rfl (by rw [hops9]; rfl) ?_
        refine p_run (l' := [.slice A N.length c, .int .i64 tt, .string (strB xs), undef, undef, undef, .slice none 0 0, .int .i64 tt, .bool false, .bool false, undef, undef, .bool false, .bool false, .slice A N.length c, undef, undef, undef, undef, undef, undef, undef, undef, undef, undef, undef, undef]) _ (x_move (.slice A N.length c) rfl rfl) rfl ?_
        refine p_on rfl (by rw [hops9]; rfl) ?_
        refine p_run (l' := _) _ (x_len rfl rfl Try.underlying52) rfl ?_
        refine p_on rfl (by rw [hops9]; rfl) ?_
        refine p_run (l' := _) _ (x_cmp (k := .i64) (m := (N.length : Int)) (n := 64) .geq true rfl rfl rfl h2 rfl) rfl ?_
        refine p_run (l' := _) _ (x_pick false (.bool true) (.bool true) (.bool true) rfl rfl rfl rfl rfl) rfl ?_
        clear hops9
        refine wpList_nil ?_
        refine fr_at (l' := [.slice A N.length c, .int .i64 tt, .string (strB xs), undef, undef, undef, .slice none 0 0, .int .i64 tt, .bool false, .bool false, undef, undef, .bool false, .bool false, .slice A N.length c, .int .i64 (N.length : Int), .bool true, .bool true, undef, undef, undef, undef, undef, undef, undef, undef, undef]) rfl ?_
        refine hK8 _ _ ?_
        refine c_true rfl ?_
        refine wp_seq_k (fun K11 hK12 => ?_)
        refine c_region (fun ops14 hops13 => ?_)
        clear hops13
        refine p_run (l' := _) _ (x_move (.slice A N.length c) rfl rfl) rfl ?_
        refine p_run (l' := _) _ (x_assign (.slice A N.length c) rfl rfl) rfl ?_
        refine wpList_nil ?_
        refine fr_at (l' := [.slice A N.length c, .int .i64 tt, .string (strB xs), undef, undef, undef, .slice A N.length c, .int .i64 tt, .bool false, .bool false, undef, undef, .bool false, .bool false, .slice A N.length c, .int .i64 (N.length : Int), .bool true, .bool true, .slice A N.length c, undef, undef, undef, undef, undef, undef, undef, undef]) rfl ?_
        refine hK12 _ _ ?_
        refine wp_ret ?_
        try simp only [Exit.inBlock, Exit.then]
        refine c_ret (.slice A N.length c) (r_tmp rfl rfl) ?_
        have e1 : nSend N tt xs = N := by unfold nSend; rw [if_neg (by omega)]
        rw [e1]
        exact ⟨_, rfl, HS⟩
      · skip
        have h2 : decide ((N.length : Int) ≥ 64) = false := decide_eq_false h22
        refine c_enter Try.func32 rfl 27 rfl [.slice A N.length c, .int .i64 tt, .string (strB xs), undef, undef, undef, undef, undef, undef, undef, undef, undef, undef, undef, undef, undef, undef, undef, undef, undef, undef, undef, undef, undef, undef, undef, undef] rfl ?_
        refine wp_seq_k (fun K1 hK2 => ?_)
        refine c_region (fun ops4 hops3 => ?_)
        clear hops3
        refine p_run (l' := _) _ (x_assign (.slice none 0 0) rfl rfl) rfl ?_
        refine wpList_nil ?_
        refine fr_at (l' := [.slice A N.length c, .int .i64 tt, .string (strB xs), undef, undef, undef, .slice none 0 0, undef, undef, undef, undef, undef, undef, undef, undef, undef, undef, undef, undef, undef, undef, undef, undef, undef, undef, undef, undef]) rfl ?_
        refine hK2 _ _ ?_
        refine wp_seq_k (fun K5 hK6 => ?_)
        refine wp_seq_k (fun K7 hK8 => ?_)
        refine c_region (fun ops10 hops9 => ?_)
        refine p_run (l' := _) _ (x_move (.int .i64 tt) rfl rfl) rfl ?_
        refine p_run (l' := _) _ (x_cmp (k := .i64) (m := tt) (n := 0) .neq false rfl rfl rfl (by rw [h0]; decide) rfl) rfl ?_
        refine p_run (l' := _) _ (x_move (.bool false) rfl rfl) rfl ?_
        refine p_off (l' := [.slice A N.length c, .int .i64 tt, .string (strB xs), undef, undef, undef, .slice none 0 0, .int .i64 tt, .bool false, .bool false, undef, undef, undef, undef, undef, undef, undef, undef, undef, undef, undef, undef, undef, undef, undef, undef, undef]) (by rw [hops9]; rfl) rfl ?_
        refine p_off (l' := _) (by rw [hops9]; rfl) rfl ?_
        refine p_run (l' := _) _ (x_pick false (undef) (.bool false) (.bool false) rfl rfl rfl rfl rfl) rfl ?_
        refine p_run (l' := _) _ (x_move (.bool false) rfl rfl) rfl ?_
        refine p_on rfl (by rw [hops9]; rfl) ?_
        refine p_run (l' := [.slice A N.length c, .int .i64 tt, .string (strB xs), undef, undef, undef, .slice none 0 0, .int .i64 tt, .bool false, .bool false, undef, undef, .bool false, .bool false, .slice A N.length c, undef, undef, undef, undef, undef, undef, undef, undef, undef, undef, undef, undef]) _ (x_move (.slice A N.length c) rfl rfl) rfl ?_
        refine p_on rfl (by rw [hops9]; rfl) ?_
        refine p_run (l' := _) _ (x_len rfl rfl Try.underlying52) rfl ?_
        refine p_on rfl (by rw [hops9]; rfl) ?_
        refine p_run (l' := _) _ (x_cmp (k := .i64) (m := (N.length : Int)) (n := 64) .geq false rfl rfl rfl h2 rfl) rfl ?_
        refine p_run (l' := _) _ (x_pick false (.bool true) (.bool false) (.bool false) rfl rfl rfl rfl rfl) rfl ?_
        clear hops9
        refine wpList_nil ?_
        refine fr_at (l' := [.slice A N.length c, .int .i64 tt, .string (strB xs), undef, undef, undef, .slice none 0 0, .int .i64 tt, .bool false, .bool false, undef, undef, .bool false, .bool false, .slice A N.length c, .int .i64 (N.length : Int), .bool false, .bool false, undef, undef, undef, undef, undef, undef, undef, undef, undef]) rfl ?_
        refine hK8 _ _ ?_
        refine c_false rfl ?_
        refine wp_skip ?_
        refine hK6 _ _ ?_
        refine wp_seq_k (fun K11 hK12 => ?_)
        refine c_region (fun ops14 hops13 => ?_)
        clear hops13
        refine St.wLit0 HS kPk rfl 2 (.agg [.int .i64 0, .string ByteArray.empty].toArray) Try.underlying52 (by kernel_rfl) ?_
        clear HS
        intro v15 w16 HS
        refine p_run (l' := _) _ (x_move (.slice A N.length c) rfl rfl) rfl ?_
        refine St.wAppend HS ((.agg #[.int .i64 0, .string ByteArray.empty])) 24 Try.underlying52 (by kernel_rfl) rfl (by decide) (by decide) (rp N) _ _ _ rfl rfl (by have := (row_C (HS.get (.tail _ (.head _)))).2.2; rw [rp_length] at this; exact this) (fun _ _ h => h) (by simp [rp_length]; omega) ?_
        clear HS
        intro v17 w18 HS
        refine p_run (l' := [.slice A N.length c, .int .i64 tt, .string (strB xs), undef, undef, undef, .slice none 0 0, .int .i64 tt, .bool false, .bool false, undef, undef, .bool false, .bool false, .slice A N.length c, .int .i64 (N.length : Int), .bool false, .bool false, undef, v15, .slice A N.length c, v17, .int .i64 tt, undef, undef, undef, undef]) _ (x_move (.int .i64 tt) rfl rfl) rfl ?_
        refine p_run (l' := _) _ (x_move (.string (strB xs)) rfl rfl) rfl ?_
        refine p_run (l' := _) _ (x_build [.int .i64 tt, .string (strB xs)] rfl (by kernel_rfl)) rfl ?_
        refine St.wLit1 HS [.int .i64 tt, .string (strB xs)] 2 (.agg [.int .i64 0, .string ByteArray.empty].toArray) (.agg ([.int .i64 tt, .string (strB xs)] : List Value).toArray) Try.underlying52 (by kernel_rfl) (by decide) rfl rfl rfl ?_
        clear HS
        intro g19 w20 hg21 HS
        replace HS := (HS.front 1 rfl)
        refine St.wAppend HS ((.agg #[.int .i64 0, .string ByteArray.empty])) 24 Try.underlying52 (by kernel_rfl) rfl (by decide) (by decide) [(tt, .string (strB xs))] _ _ _ rfl rfl (lit_reads (HS.get (.tail _ (.head _))) ((Reps.none _ _).snoc (p := ((tt, .string (strB xs)) : Int × Value)) ⟨rfl, rfl⟩ rfl) (by simp)) (fun _ _ h => h) (by simp [rp_length]; omega) ?_
        clear HS
        intro v22 w23 HS
        refine fr_to (l' := [.slice A N.length c, .int .i64 tt, .string (strB xs), undef, undef, undef, .slice none 0 0, .int .i64 tt, .bool false, .bool false, undef, undef, .bool false, .bool false, .slice A N.length c, .int .i64 (N.length : Int), .bool false, .bool false, undef, v15, .slice A N.length c, v17, .int .i64 tt, .string (strB xs), .agg ([.int .i64 tt, .string (strB xs)] : List Value).toArray, .slice (some ⟨g19, 0, none⟩) 1 1, v22]) rfl ?_
        refine p_run (l' := _) _ (x_assign (v22) rfl rfl) rfl ?_
        refine wpList_nil ?_
        refine fr_at (l' := [.slice A N.length c, .int .i64 tt, .string (strB xs), undef, undef, undef, v22, .int .i64 tt, .bool false, .bool false, undef, undef, .bool false, .bool false, .slice A N.length c, .int .i64 (N.length : Int), .bool false, .bool false, undef, v15, .slice A N.length c, v17, .int .i64 tt, .string (strB xs), .agg ([.int .i64 tt, .string (strB xs)] : List Value).toArray, .slice (some ⟨g19, 0, none⟩) 1 1, v22]) rfl ?_
        refine hK12 _ _ ?_
        refine wp_ret ?_
        try simp only [Exit.inBlock, Exit.then]
        refine c_ret (v22) (r_tmp rfl rfl) ?_
        have e1 : rp (nSend N tt xs) = ([] ++ rp N) ++ [(tt, .string (strB xs))] := by unfold nSend; rw [if_pos ⟨by omega, by omega, by omega⟩, rp_snoc, List.nil_append]
        rw [e1]
        exact ⟨_, rfl, ((HS.front 1 rfl).drop.front 1 rfl).drop⟩
    · skip
      by_cases h1 : tt = 1
      · skip
        by_cases h22 : (N.length : Int) ≥ 64
        · skip
          have h2 : decide ((N.length : Int) ≥ 64) = true := decide_eq_true h22
          refine c_enter Try.func32 rfl 27 rfl [.slice A N.length c, .int .i64 tt, .string (strB xs), undef, undef, undef, undef, undef, undef, undef, undef, undef, undef, undef, undef, undef, undef, undef, undef, undef, undef, undef, undef, undef, undef, undef, undef] rfl ?_
          refine wp_seq_k (fun K1 hK2 => ?_)
          refine c_region (fun ops4 hops3 => ?_)
          clear hops3
          refine p_run (l' := _) _ (x_assign (.slice none 0 0) rfl rfl) rfl ?_
          refine wpList_nil ?_
          refine fr_at (l' := [.slice A N.length c, .int .i64 tt, .string (strB xs), undef, undef, undef, .slice none 0 0, undef, undef, undef, undef, undef, undef, undef, undef, undef, undef, undef, undef, undef, undef, undef, undef, undef, undef, undef, undef]) rfl ?_
          refine hK2 _ _ ?_
          refine wp_seq_k (fun K5 hK6 => ?_)
          refine wp_seq_k (fun K7 hK8 => ?_)
          refine c_region (fun ops10 hops9 => ?_)
          refine p_run (l' := _) _ (x_move (.int .i64 tt) rfl rfl) rfl ?_
          refine p_run (l' := _) _ (x_cmp (k := .i64) (m := tt) (n := 0) .neq true rfl rfl rfl (by unfold cmpB; simpa using h0) rfl) rfl ?_
          refine p_run (l' := _) _ (x_move (.bool true) rfl rfl) rfl ?_
          refine p_on rfl (by rw [hops9]; rfl) ?_
          refine p_run (l' := [.slice A N.length c, .int .i64 tt, .string (strB xs), undef, undef, undef, .slice none 0 0, .int .i64 tt, .bool true, .bool true, .int .i64 tt, undef, undef, undef, undef, undef, undef, undef, undef, undef, undef, undef, undef, undef, undef, undef, undef]) _ (x_move (.int .i64 tt) rfl rfl) rfl ?_
          refine p_on rfl (by rw [hops9]; rfl) ?_
          refine p_run (l' := _) _ (x_cmp (k := .i64) (m := tt) (n := 1) .neq false rfl rfl rfl (by rw [h1]; decide) rfl) rfl ?_
          refine p_run (l' := _) _ (x_pick true (.bool false) (.bool false) (.bool false) rfl rfl rfl rfl rfl) rfl ?_
          refine p_run (l' := _) _ (x_move (.bool false) rfl rfl) rfl ?_
          refine p_on rfl (by rw [hops9]; rfl) ?_
          refine p_run (l' := [.slice A N.length c, .int .i64 tt, .string (strB xs), undef, undef, undef, .slice none 0 0, .int .i64 tt, .bool true, .bool true, .int .i64 tt, .bool false, .bool false, .bool false, .slice A N.length c, undef, undef, undef, undef, undef, undef, undef, undef, undef, undef, undef, undef]) _ (x_move (.slice A N.length c) rfl rfl) rfl ?_
          refine p_on rfl (by rw [hops9]; rfl) ?_
          refine p_run (l' := _) _ (x_len rfl rfl Try.underlying52) rfl ?_
          refine p_on rfl (by rw [hops9]; rfl) ?_
          refine p_run (l' := _) _ (x_cmp (k := .i64) (m := (N.length : Int)) (n := 64) .geq true rfl rfl rfl h2 rfl) rfl ?_
          refine p_run (l' := _) _ (x_pick false (.bool true) (.bool true) (.bool true) rfl rfl rfl rfl rfl) rfl ?_
          clear hops9
          refine wpList_nil ?_
          refine fr_at (l' := [.slice A N.length c, .int .i64 tt, .string (strB xs), undef, undef, undef, .slice none 0 0, .int .i64 tt, .bool true, .bool true, .int .i64 tt, .bool false, .bool false, .bool false, .slice A N.length c, .int .i64 (N.length : Int), .bool true, .bool true, undef, undef, undef, undef, undef, undef, undef, undef, undef]) rfl ?_
          refine hK8 _ _ ?_
          refine c_true rfl ?_
          refine wp_seq_k (fun K11 hK12 => ?_)
          refine c_region (fun ops14 hops13 => ?_)
          clear hops13
          refine p_run (l' := _) _ (x_move (.slice A N.length c) rfl rfl) rfl ?_
          refine p_run (l' := _) _ (x_assign (.slice A N.length c) rfl rfl) rfl ?_
          refine wpList_nil ?_
          refine fr_at (l' := [.slice A N.length c, .int .i64 tt, .string (strB xs), undef, undef, undef, .slice A N.length c, .int .i64 tt, .bool true, .bool true, .int .i64 tt, .bool false, .bool false, .bool false, .slice A N.length c, .int .i64 (N.length : Int), .bool true, .bool true, .slice A N.length c, undef, undef, undef, undef, undef, undef, undef, undef]) rfl ?_
          refine hK12 _ _ ?_
          refine wp_ret ?_
          try simp only [Exit.inBlock, Exit.then]
          refine c_ret (.slice A N.length c) (r_tmp rfl rfl) ?_
          have e1 : nSend N tt xs = N := by unfold nSend; rw [if_neg (by omega)]
          rw [e1]
          exact ⟨_, rfl, HS⟩
        · skip
          have h2 : decide ((N.length : Int) ≥ 64) = false := decide_eq_false h22
          refine c_enter Try.func32 rfl 27 rfl [.slice A N.length c, .int .i64 tt, .string (strB xs), undef, undef, undef, undef, undef, undef, undef, undef, undef, undef, undef, undef, undef, undef, undef, undef, undef, undef, undef, undef, undef, undef, undef, undef] rfl ?_
          refine wp_seq_k (fun K1 hK2 => ?_)
          refine c_region (fun ops4 hops3 => ?_)
          clear hops3
          refine p_run (l' := _) _ (x_assign (.slice none 0 0) rfl rfl) rfl ?_
          refine wpList_nil ?_
          refine fr_at (l' := [.slice A N.length c, .int .i64 tt, .string (strB xs), undef, undef, undef, .slice none 0 0, undef, undef, undef, undef, undef, undef, undef, undef, undef, undef, undef, undef, undef, undef, undef, undef, undef, undef, undef, undef]) rfl ?_
          refine hK2 _ _ ?_
          refine wp_seq_k (fun K5 hK6 => ?_)
          refine wp_seq_k (fun K7 hK8 => ?_)
          refine c_region (fun ops10 hops9 => ?_)
          refine p_run (l' := _) _ (x_move (.int .i64 tt) rfl rfl) rfl ?_
          refine p_run (l' := _) _ (x_cmp (k := .i64) (m := tt) (n := 0) .neq true rfl rfl rfl (by unfold cmpB; simpa using h0) rfl) rfl ?_
          refine p_run (l' := _) _ (x_move (.bool true) rfl rfl) rfl ?_
          refine p_on rfl (by rw [hops9]; rfl) ?_
          refine p_run (l' := [.slice A N.length c, .int .i64 tt, .string (strB xs), undef, undef, undef, .slice none 0 0, .int .i64 tt, .bool true, .bool true, .int .i64 tt, undef, undef, undef, undef, undef, undef, undef, undef, undef, undef, undef, undef, undef, undef, undef, undef]) _ (x_move (.int .i64 tt) rfl rfl) rfl ?_
          refine p_on rfl (by rw [hops9]; rfl) ?_
          refine p_run (l' := _) _ (x_cmp (k := .i64) (m := tt) (n := 1) .neq false rfl rfl rfl (by rw [h1]; decide) rfl) rfl ?_
          refine p_run (l' := _) _ (x_pick true (.bool false) (.bool false) (.bool false) rfl rfl rfl rfl rfl) rfl ?_
          refine p_run (l' := _) _ (x_move (.bool false) rfl rfl) rfl ?_
          refine p_on rfl (by rw [hops9]; rfl) ?_
          refine p_run (l' := [.slice A N.length c, .int .i64 tt, .string (strB xs), undef, undef, undef, .slice none 0 0, .int .i64 tt, .bool true, .bool true, .int .i64 tt, .bool false, .bool false, .bool false, .slice A N.length c, undef, undef, undef, undef, undef, undef, undef, undef, undef, undef, undef, undef]) _ (x_move (.slice A N.length c) rfl rfl) rfl ?_
          refine p_on rfl (by rw [hops9]; rfl) ?_
          refine p_run (l' := _) _ (x_len rfl rfl Try.underlying52) rfl ?_
          refine p_on rfl (by rw [hops9]; rfl) ?_
          refine p_run (l' := _) _ (x_cmp (k := .i64) (m := (N.length : Int)) (n := 64) .geq false rfl rfl rfl h2 rfl) rfl ?_
          refine p_run (l' := _) _ (x_pick false (.bool true) (.bool false) (.bool false) rfl rfl rfl rfl rfl) rfl ?_
          clear hops9
          refine wpList_nil ?_
          refine fr_at (l' := [.slice A N.length c, .int .i64 tt, .string (strB xs), undef, undef, undef, .slice none 0 0, .int .i64 tt, .bool true, .bool true, .int .i64 tt, .bool false, .bool false, .bool false, .slice A N.length c, .int .i64 (N.length : Int), .bool false, .bool false, undef, undef, undef, undef, undef, undef, undef, undef, undef]) rfl ?_
          refine hK8 _ _ ?_
          refine c_false rfl ?_
          refine wp_skip ?_
          refine hK6 _ _ ?_
          refine wp_seq_k (fun K11 hK12 => ?_)
          refine c_region (fun ops14 hops13 => ?_)
          clear hops13
          refine St.wLit0 HS kPk rfl 2 (.agg [.int .i64 0, .string ByteArray.empty].toArray) Try.underlying52 (by kernel_rfl) ?_
          clear HS
          intro v15 w16 HS
          refine p_run (l' := _) _ (x_move (.slice A N.length c) rfl rfl) rfl ?_
          refine St.wAppend HS ((.agg #[.int .i64 0, .string ByteArray.empty])) 24 Try.underlying52 (by kernel_rfl) rfl (by decide) (by decide) (rp N) _ _ _ rfl rfl (by have := (row_C (HS.get (.tail _ (.head _)))).2.2; rw [rp_length] at this; exact this) (fun _ _ h => h) (by simp [rp_length]; omega) ?_
          clear HS
          intro v17 w18 HS
          refine p_run (l' := [.slice A N.length c, .int .i64 tt, .string (strB xs), undef, undef, undef, .slice none 0 0, .int .i64 tt, .bool true, .bool true, .int .i64 tt, .bool false, .bool false, .bool false, .slice A N.length c, .int .i64 (N.length : Int), .bool false, .bool false, undef, v15, .slice A N.length c, v17, .int .i64 tt, undef, undef, undef, undef]) _ (x_move (.int .i64 tt) rfl rfl) rfl ?_
          refine p_run (l' := _) _ (x_move (.string (strB xs)) rfl rfl) rfl ?_
          refine p_run (l' := _) _ (x_build [.int .i64 tt, .string (strB xs)] rfl (by kernel_rfl)) rfl ?_
          refine St.wLit1 HS [.int .i64 tt, .string (strB xs)] 2 (.agg [.int .i64 0, .string ByteArray.empty].toArray) (.agg ([.int .i64 tt, .string (strB xs)] : List Value).toArray) Try.underlying52 (by kernel_rfl) (by decide) rfl rfl rfl ?_
          clear HS
          intro g19 w20 hg21 HS
          replace HS := (HS.front 1 rfl)
          refine St.wAppend HS ((.agg #[.int .i64 0, .string ByteArray.empty])) 24 Try.underlying52 (by kernel_rfl) rfl (by decide) (by decide) [(tt, .string (strB xs))] _ _ _ rfl rfl (lit_reads (HS.get (.tail _ (.head _))) ((Reps.none _ _).snoc (p := ((tt, .string (strB xs)) : Int × Value)) ⟨rfl, rfl⟩ rfl) (by simp)) (fun _ _ h => h) (by simp [rp_length]; omega) ?_
          clear HS
          intro v22 w23 HS
          refine fr_to (l' := [.slice A N.length c, .int .i64 tt, .string (strB xs), undef, undef, undef, .slice none 0 0, .int .i64 tt, .bool true, .bool true, .int .i64 tt, .bool false, .bool false, .bool false, .slice A N.length c, .int .i64 (N.length : Int), .bool false, .bool false, undef, v15, .slice A N.length c, v17, .int .i64 tt, .string (strB xs), .agg ([.int .i64 tt, .string (strB xs)] : List Value).toArray, .slice (some ⟨g19, 0, none⟩) 1 1, v22]) rfl ?_
          refine p_run (l' := _) _ (x_assign (v22) rfl rfl) rfl ?_
          refine wpList_nil ?_
          refine fr_at (l' := [.slice A N.length c, .int .i64 tt, .string (strB xs), undef, undef, undef, v22, .int .i64 tt, .bool true, .bool true, .int .i64 tt, .bool false, .bool false, .bool false, .slice A N.length c, .int .i64 (N.length : Int), .bool false, .bool false, undef, v15, .slice A N.length c, v17, .int .i64 tt, .string (strB xs), .agg ([.int .i64 tt, .string (strB xs)] : List Value).toArray, .slice (some ⟨g19, 0, none⟩) 1 1, v22]) rfl ?_
          refine hK12 _ _ ?_
          refine wp_ret ?_
          try simp only [Exit.inBlock, Exit.then]
          refine c_ret (v22) (r_tmp rfl rfl) ?_
          have e1 : rp (nSend N tt xs) = ([] ++ rp N) ++ [(tt, .string (strB xs))] := by unfold nSend; rw [if_pos ⟨by omega, by omega, by omega⟩, rp_snoc, List.nil_append]
          rw [e1]
          exact ⟨_, rfl, ((HS.front 1 rfl).drop.front 1 rfl).drop⟩
      · skip
        refine c_enter Try.func32 rfl 27 rfl [.slice A N.length c, .int .i64 tt, .string (strB xs), undef, undef, undef, undef, undef, undef, undef, undef, undef, undef, undef, undef, undef, undef, undef, undef, undef, undef, undef, undef, undef, undef, undef, undef] rfl ?_
        refine wp_seq_k (fun K1 hK2 => ?_)
        refine c_region (fun ops4 hops3 => ?_)
        clear hops3
        refine p_run (l' := _) _ (x_assign (.slice none 0 0) rfl rfl) rfl ?_
        refine wpList_nil ?_
        refine fr_at (l' := [.slice A N.length c, .int .i64 tt, .string (strB xs), undef, undef, undef, .slice none 0 0, undef, undef, undef, undef, undef, undef, undef, undef, undef, undef, undef, undef, undef, undef, undef, undef, undef, undef, undef, undef]) rfl ?_
        refine hK2 _ _ ?_
        refine wp_seq_k (fun K5 hK6 => ?_)
        refine wp_seq_k (fun K7 hK8 => ?_)
        refine c_region (fun ops10 hops9 => ?_)
        refine p_run (l' := _) _ (x_move (.int .i64 tt) rfl rfl) rfl ?_
        refine p_run (l' := _) _ (x_cmp (k := .i64) (m := tt) (n := 0) .neq true rfl rfl rfl (by unfold cmpB; simpa using h0) rfl) rfl ?_
        refine p_run (l' := _) _ (x_move (.bool true) rfl rfl) rfl ?_
        refine p_on rfl (by rw [hops9]; rfl) ?_
        refine p_run (l' := [.slice A N.length c, .int .i64 tt, .string (strB xs), undef, undef, undef, .slice none 0 0, .int .i64 tt, .bool true, .bool true, .int .i64 tt, undef, undef, undef, undef, undef, undef, undef, undef, undef, undef, undef, undef, undef, undef, undef, undef]) _ (x_move (.int .i64 tt) rfl rfl) rfl ?_
        refine p_on rfl (by rw [hops9]; rfl) ?_
        refine p_run (l' := _) _ (x_cmp (k := .i64) (m := tt) (n := 1) .neq true rfl rfl rfl (by unfold cmpB; simpa using h1) rfl) rfl ?_
        refine p_run (l' := _) _ (x_pick true (.bool true) (.bool false) (.bool true) rfl rfl rfl rfl rfl) rfl ?_
        refine p_run (l' := _) _ (x_move (.bool true) rfl rfl) rfl ?_
        refine p_off (l' := [.slice A N.length c, .int .i64 tt, .string (strB xs), undef, undef, undef, .slice none 0 0, .int .i64 tt, .bool true, .bool true, .int .i64 tt, .bool true, .bool true, .bool true, undef, undef, undef, undef, undef, undef, undef, undef, undef, undef, undef, undef, undef]) (by rw [hops9]; rfl) rfl ?_
        refine p_off (l' := _) (by rw [hops9]; rfl) rfl ?_
        refine p_off (l' := _) (by rw [hops9]; rfl) rfl ?_
        refine p_run (l' := _) _ (x_pick true (.bool true) (undef) (.bool true) rfl rfl rfl rfl rfl) rfl ?_
        clear hops9
        refine wpList_nil ?_
        refine fr_at (l' := [.slice A N.length c, .int .i64 tt, .string (strB xs), undef, undef, undef, .slice none 0 0, .int .i64 tt, .bool true, .bool true, .int .i64 tt, .bool true, .bool true, .bool true, undef, undef, undef, .bool true, undef, undef, undef, undef, undef, undef, undef, undef, undef]) rfl ?_
        refine hK8 _ _ ?_
        refine c_true rfl ?_
        refine wp_seq_k (fun K11 hK12 => ?_)
        refine c_region (fun ops14 hops13 => ?_)
        clear hops13
        refine p_run (l' := _) _ (x_move (.slice A N.length c) rfl rfl) rfl ?_
        refine p_run (l' := _) _ (x_assign (.slice A N.length c) rfl rfl) rfl ?_
        refine wpList_nil ?_
        refine fr_at (l' := [.slice A N.length c, .int .i64 tt, .string (strB xs), undef, undef, undef, .slice A N.length c, .int .i64 tt, .bool true, .bool true, .int .i64 tt, .bool true, .bool true, .bool true, undef, undef, undef, .bool true, .slice A N.length c, undef, undef, undef, undef, undef, undef, undef, undef]) rfl ?_
        refine hK12 _ _ ?_
        refine wp_ret ?_
        try simp only [Exit.inBlock, Exit.then]
        refine c_ret (.slice A N.length c) (r_tmp rfl rfl) ?_
        have e1 : nSend N tt xs = N := by unfold nSend; rw [if_neg (by omega)]
        rw [e1]
        exact ⟨_, rfl, HS⟩

/-- What is on its way, but for one. -/
def nWout (N : List (Int × List UInt8)) (i : Int) : List (Int × List UInt8) := if 0 ≤ i ∧ i < (N.length : Int) then N.eraseIdx i.toNat else N
def woN (N : List (Int × List UInt8)) (i : Int) (k : Nat) : List (Int × List UInt8) := if 0 ≤ i ∧ i < (k : Int) then (N.take k).eraseIdx i.toNat else N.take k
theorem wo_zero (i : Int) : rp (woN N i 0) = [] := by
  unfold woN
  split
  · omega
  · rfl
theorem wo_all (i : Int) : woN N i N.length = nWout N i := by unfold woN nWout; rw [List.take_length]
theorem wo_skip {i : Int} {k : Nat} (h : (k : Int) = i) {x : Int × List UInt8} (hx : N[k]? = some x) : woN N i (k + 1) = woN N i k := by
  have hk := (List.getElem?_eq_some_iff.1 hx).1
  have hl : (N.take k).length = k := by rw [List.length_take]; omega
  unfold woN
  rw [if_pos (by omega), if_neg (by omega), List.take_succ_eq_append_getElem hk, show i.toNat = k by omega, List.eraseIdx_append_of_length_le (by omega), hl, Nat.sub_self]
  simp
theorem wo_take {i : Int} {k : Nat} (h : (k : Int) ≠ i) {x : Int × List UInt8} (hx : N[k]? = some x) : woN N i (k + 1) = woN N i k ++ [x] := by
  have hk := (List.getElem?_eq_some_iff.1 hx).1
  have hx' : N[k] = x := (List.getElem?_eq_some_iff.1 hx).2
  have hl : (N.take k).length = k := by rw [List.length_take]; omega
  unfold woN
  rw [List.take_succ_eq_append_getElem hk, hx']
  by_cases c : 0 ≤ i ∧ i < (k : Int)
  · rw [if_pos (by omega), if_pos c, List.eraseIdx_append_of_lt_length (by omega)]
  · rw [if_neg (by omega), if_neg c]

theorem eq_or_neq (a b : Int) : a = b ∨ a ≠ b := by omega
theorem wo_len (i : Int) (k : Nat) : (woN N i k).length ≤ N.length := by
  unfold woN
  split
  · have h1 := List.length_eraseIdx_le (N.take k) i.toNat
    rw [List.length_take] at h1
    omega
  · rw [List.length_take]; omega

set_option maxRecDepth 10000 in
set_option maxHeartbeats 1000000 in
theorem rWout_any (HS : St w0 F W (row kPk rfl 58 v (rp N) :: L)) (i : Int) (hN : N.length ≤ 1000) : Calls Try.prog 33 #[v, .int .i64 i] W fun e w' => ∃ v', e = .returned v' ∧ St w0 F w' (row kPk rfl 58 v' (rp (nWout N i)) :: L) := by
  obtain ⟨A, c, hv, hcap, -⟩ := row_reads (HS.get (.head _))
  rw [rp_length] at hv hcap
  subst hv
  · skip
    refine c_enter Try.func33 rfl 25 rfl [.slice A N.length c, .int .i64 i, undef, undef, undef, undef, undef, undef, undef, undef, undef, undef, undef, undef, undef, undef, undef, undef, undef, undef, undef, undef, undef, undef, undef] rfl ?_
    refine wp_seq_k (fun K1 hK2 => ?_)
    refine c_region (fun ops4 hops3 => ?_)
    clear hops3
    refine p_run (l' := _) _ (x_assign (.slice none 0 0) rfl rfl) rfl ?_
    refine wpList_nil ?_
    refine fr_at (l' := [.slice A N.length c, .int .i64 i, undef, undef, .slice none 0 0, undef, undef, undef, undef, undef, undef, undef, undef, undef, undef, undef, undef, undef, undef, undef, undef, undef, undef, undef, undef]) rfl ?_
    refine hK2 _ _ ?_
    refine wp_seq_k (fun K5 hK6 => ?_)
    refine c_region (fun ops8 hops7 => ?_)
    clear hops7
    refine St.wLit0 HS kPk rfl 2 (.agg [.int .i64 0, .string ByteArray.empty].toArray) Try.underlying52 (by kernel_rfl) ?_
    clear HS
    intro v9 w10 HS
    refine p_run (l' := _) _ (x_assign (v9) rfl rfl) rfl ?_
    refine wpList_nil ?_
    refine fr_at (l' := [.slice A N.length c, .int .i64 i, undef, undef, .slice none 0 0, v9, undef, undef, v9, undef, undef, undef, undef, undef, undef, undef, undef, undef, undef, undef, undef, undef, undef, undef, undef]) rfl ?_
    refine hK6 _ _ ?_
    refine wp_seq_k (fun K11 hK12 => ?_)
    refine wp_seq_k (fun K13 hK14 => ?_)
    refine c_region (fun ops16 hops15 => ?_)
    clear hops15
    refine p_run (l' := _) _ (x_move (.slice A N.length c) rfl rfl) rfl ?_
    refine p_run (l' := _) _ (x_len rfl rfl Try.underlying52) rfl ?_
    refine p_run (l' := _) _ (x_move (.int .i64 0) rfl rfl) rfl ?_
    refine wpList_nil ?_
    refine fr_at (l' := [.slice A N.length c, .int .i64 i, undef, undef, .slice none 0 0, v9, undef, undef, v9, .slice A N.length c, .int .i64 (N.length : Int), .int .i64 0, undef, undef, undef, undef, undef, undef, undef, undef, undef, undef, undef, undef, undef]) rfl ?_
    refine hK14 _ _ ?_
    refine wp_block ?_
    refine c_loop (ι := Nat × Value) (fun i_ a_ w_ => match i_ with | (k, u) => ∃ (u6 : Value) (u7 : Value) (u12 : Value) (u13 : Value) (u14 : Value) (u15 : Value) (u16 : Value) (u17 : Value) (u18 : Value) (u19 : Value) (u20 : Value) (u21 : Value) (u22 : Value) (u23 : Value), a_ = fr [.slice A N.length c, .int .i64 i, undef, undef, .slice none 0 0, u, u6, u7, v9, .slice A N.length c, .int .i64 (N.length : Int), .int .i64 (k : Int), u12, u13, u14, u15, u16, u17, u18, u19, u20, u21, u22, u23, undef] ∧ St w0 F w_ (row kPk rfl 58 u (rp (woN N i k)) :: row kPk rfl 58 (.slice A N.length c) (rp N) :: L) ∧ (k ≤ N.length)) (fun i_ => match i_ with | (k, u) => N.length - k) (0, v9) ?_ ?_
    · exact ⟨_, _, _, _, _, _, _, _, _, _, _, _, _, _, rfl, (by rw [wo_zero]; exact HS), Nat.zero_le _⟩
    · clear HS
      rintro ⟨k, u⟩ a_ w19 ⟨u6, u7, u12, u13, u14, u15, u16, u17, u18, u19, u20, u21, u22, u23, rfl, HS, hI⟩ J17 hJ18
      have hkl := hI
      refine wp_seq_k (fun K20 hK21 => ?_)
      refine c_region (fun ops23 hops22 => ?_)
      clear hops22
      refine p_run (l' := _) _ (x_cmp (k := .i64) (m := (k : Int)) (n := (N.length : Int)) .lss (decide ((k : Int) < (N.length : Int))) rfl rfl rfl rfl rfl) rfl ?_
      refine wpList_nil ?_
      refine fr_at (l' := [.slice A N.length c, .int .i64 i, undef, undef, .slice none 0 0, u, u6, u7, v9, .slice A N.length c, .int .i64 (N.length : Int), .int .i64 (k : Int), .bool (decide ((k : Int) < (N.length : Int))), u13, u14, u15, u16, u17, u18, u19, u20, u21, u22, u23, undef]) rfl ?_
      refine hK21 _ _ ?_
      refine wp_seq_k (fun K24 hK25 => ?_)
      refine c_cond (t := decide ((k : Int) < (N.length : Int))) rfl (fun hc26 => ?_) (fun hc26 => ?_)
      · have hlt : k < N.length := by have := of_decide_eq_true hc26; omega
        obtain ⟨x, hx⟩ : ∃ x, N[k]? = some x := ⟨_, List.getElem?_eq_getElem hlt⟩
        obtain ⟨ad, rfl⟩ := pk_some (HS.get (.tail _ (.head _))) (rp_get hx)
        refine wp_skip ?_
        refine hK25 _ _ ?_
        refine wp_seq_k (fun K27 hK28 => ?_)
        refine wp_block ?_
        refine wp_seq_k (fun K29 hK30 => ?_)
        refine c_region (fun ops32 hops31 => ?_)
        clear hops31
        refine p_run (l' := _) _ (x_move (.int .i64 (k : Int)) rfl rfl) rfl ?_
        refine p_run (l' := _) _ (x_index (A := ad) (j := k * 2) (sz := 2) rfl rfl rfl Try.underlying52 (by kernel_rfl) (by omega) rfl) rfl ?_
        refine p_run (l' := _) _ (x_loads [.int .i64 x.1, .string (strB x.2)] 2 rfl rfl (pk_cell (HS.get (.tail _ (.head _))) (rp_get hx)) (by rfl) (by kernel_rfl) rfl) rfl ?_
        refine St.wAlloc HS (cs := [.int .i64 0, .string ByteArray.empty]) (.agg [.int .i64 0, .string ByteArray.empty].toArray) (by kernel_rfl) rfl ?_
        clear HS
        intro g33 w34 hg35 HS
        refine fr_to (l' := [.slice (some ad) N.length c, .int .i64 i, undef, undef, .slice none 0 0, u, u6, .pointer (some ⟨g33, 0, none⟩), v9, .slice (some ad) N.length c, .int .i64 (N.length : Int), .int .i64 (k : Int), .bool (decide ((k : Int) < (N.length : Int))), .int .i64 (k : Int), .pointer (some ((ad).add (k * 2))), .agg ([.int .i64 x.1, .string (strB x.2)] : List Value).toArray, u16, u17, u18, u19, u20, u21, u22, u23, undef]) rfl ?_
        refine p_run (l' := _) _ (x_assign (.int .i64 (k : Int)) rfl rfl) rfl ?_
        refine St.stores (cs' := [.int .i64 x.1, .string (strB x.2)]) HS [.int .i64 x.1, .string (strB x.2)] 2 rfl rfl (by rfl) (by kernel_rfl) rfl (by simp) rfl ?_
        clear HS
        intro w36 HS
        refine wpList_nil ?_
        refine fr_at (l' := [.slice (some ad) N.length c, .int .i64 i, undef, undef, .slice none 0 0, u, .int .i64 (k : Int), .pointer (some ⟨g33, 0, none⟩), v9, .slice (some ad) N.length c, .int .i64 (N.length : Int), .int .i64 (k : Int), .bool (decide ((k : Int) < (N.length : Int))), .int .i64 (k : Int), .pointer (some ((ad).add (k * 2))), .agg ([.int .i64 x.1, .string (strB x.2)] : List Value).toArray, u16, u17, u18, u19, u20, u21, u22, u23, undef]) rfl ?_
        refine hK30 _ _ ?_
        refine wp_seq_k (fun K37 hK38 => ?_)
        rcases eq_or_neq (k : Int) i with heq | hne
        · skip
          refine c_region (fun ops40 hops39 => ?_)
          clear hops39
          refine p_run (l' := _) _ (x_move (.int .i64 (k : Int)) rfl rfl) rfl ?_
          refine p_run (l' := _) _ (x_move (.int .i64 i) rfl rfl) rfl ?_
          refine p_run (l' := _) _ (x_cmp (k := .i64) (m := (k : Int)) (n := i) .neq false rfl rfl rfl (by unfold cmpB; simpa using heq) rfl) rfl ?_
          refine wpList_nil ?_
          refine fr_at (l' := [.slice (some ad) N.length c, .int .i64 i, undef, undef, .slice none 0 0, u, .int .i64 (k : Int), .pointer (some ⟨g33, 0, none⟩), v9, .slice (some ad) N.length c, .int .i64 (N.length : Int), .int .i64 (k : Int), .bool (decide ((k : Int) < (N.length : Int))), .int .i64 (k : Int), .pointer (some ((ad).add (k * 2))), .agg ([.int .i64 x.1, .string (strB x.2)] : List Value).toArray, .int .i64 (k : Int), .int .i64 i, .bool false, u19, u20, u21, u22, u23, undef]) rfl ?_
          refine hK38 _ _ ?_
          refine c_false rfl ?_
          refine wp_skip ?_
          refine hK28 _ _ ?_
          refine c_region (fun ops42 hops41 => ?_)
          clear hops41
          refine p_run (l' := _) _ (x_arith (k := .i64) (m := (k : Int)) (n := 1) .add (((k + 1 : Nat) : Int)) rfl rfl rfl (show IntKind.i64.wrap ((k : Int) + 1) = ((k + 1 : Nat) : Int) from ((wr64 (by omega)).trans (by omega))) rfl) rfl ?_
          refine p_run (l' := _) _ (x_move (.int .i64 ((k + 1 : Nat) : Int)) rfl rfl) rfl ?_
          refine wpList_nil ?_
          refine fr_at (l' := [.slice (some ad) N.length c, .int .i64 i, undef, undef, .slice none 0 0, u, .int .i64 (k : Int), .pointer (some ⟨g33, 0, none⟩), v9, .slice (some ad) N.length c, .int .i64 (N.length : Int), .int .i64 ((k + 1 : Nat) : Int), .bool (decide ((k : Int) < (N.length : Int))), .int .i64 (k : Int), .pointer (some ((ad).add (k * 2))), .agg ([.int .i64 x.1, .string (strB x.2)] : List Value).toArray, .int .i64 (k : Int), .int .i64 i, .bool false, u19, u20, u21, u22, .int .i64 ((k + 1 : Nat) : Int), undef]) rfl ?_
          rw [← wo_skip heq hx] at HS
          refine hJ18 (k + 1, u) _ _ ?_ ?_
          · show N.length - (k + 1) < N.length - k; omega
          · exact ⟨_, _, _, _, _, _, _, _, _, _, _, _, _, _, rfl, ((HS.drop.front 1 rfl).front 1 rfl), (by omega)⟩
        · skip
          refine c_region (fun ops44 hops43 => ?_)
          clear hops43
          refine p_run (l' := _) _ (x_move (.int .i64 (k : Int)) rfl rfl) rfl ?_
          refine p_run (l' := _) _ (x_move (.int .i64 i) rfl rfl) rfl ?_
          refine p_run (l' := _) _ (x_cmp (k := .i64) (m := (k : Int)) (n := i) .neq true rfl rfl rfl (by unfold cmpB; simpa using hne) rfl) rfl ?_
          refine wpList_nil ?_
          refine fr_at (l' := [.slice (some ad) N.length c, .int .i64 i, undef, undef, .slice none 0 0, u, .int .i64 (k : Int), .pointer (some ⟨g33, 0, none⟩), v9, .slice (some ad) N.length c, .int .i64 (N.length : Int), .int .i64 (k : Int), .bool (decide ((k : Int) < (N.length : Int))), .int .i64 (k : Int), .pointer (some ((ad).add (k * 2))), .agg ([.int .i64 x.1, .string (strB x.2)] : List Value).toArray, .int .i64 (k : Int), .int .i64 i, .bool true, u19, u20, u21, u22, u23, undef]) rfl ?_
          refine hK38 _ _ ?_
          refine c_true rfl ?_
          refine c_region (fun ops46 hops45 => ?_)
          clear hops45
          refine p_run (l' := _) _ (x_move (u) rfl rfl) rfl ?_
          refine p_run (l' := _) _ (x_loads [.int .i64 x.1, .string (strB x.2)] 2 rfl rfl (bkCells (HS.get (.head _)) 0 _ rfl) (by rfl) (by kernel_rfl) rfl) rfl ?_
          refine St.wLit1 HS [.int .i64 x.1, .string (strB x.2)] 2 (.agg [.int .i64 0, .string ByteArray.empty].toArray) (.agg ([.int .i64 x.1, .string (strB x.2)] : List Value).toArray) Try.underlying52 (by kernel_rfl) (by decide) rfl rfl rfl ?_
          clear HS
          intro g47 w48 hg49 HS
          replace HS := (HS.front 2 rfl)
          refine St.wAppend HS ((.agg #[.int .i64 0, .string ByteArray.empty])) 24 Try.underlying52 (by kernel_rfl) rfl (by decide) (by decide) [(x.1, .string (strB x.2))] _ _ _ rfl rfl (lit_reads (HS.get (.tail _ (.head _))) ((Reps.none _ _).snoc (p := ((x.1, .string (strB x.2)) : Int × Value)) ⟨rfl, rfl⟩ rfl) (by simp)) (fun _ _ h => h) (by simp [rp_length]; have := wo_len (N := N) i k; omega) ?_
          clear HS
          intro v50 w51 HS
          refine fr_to (l' := [.slice (some ad) N.length c, .int .i64 i, undef, undef, .slice none 0 0, u, .int .i64 (k : Int), .pointer (some ⟨g33, 0, none⟩), v9, .slice (some ad) N.length c, .int .i64 (N.length : Int), .int .i64 (k : Int), .bool (decide ((k : Int) < (N.length : Int))), .int .i64 (k : Int), .pointer (some ((ad).add (k * 2))), .agg ([.int .i64 x.1, .string (strB x.2)] : List Value).toArray, .int .i64 (k : Int), .int .i64 i, .bool true, u, .agg ([.int .i64 x.1, .string (strB x.2)] : List Value).toArray, .slice (some ⟨g47, 0, none⟩) 1 1, v50, u23, undef]) rfl ?_
          refine p_run (l' := _) _ (x_assign (v50) rfl rfl) rfl ?_
          refine wpList_nil ?_
          refine fr_at (l' := [.slice (some ad) N.length c, .int .i64 i, undef, undef, .slice none 0 0, v50, .int .i64 (k : Int), .pointer (some ⟨g33, 0, none⟩), v9, .slice (some ad) N.length c, .int .i64 (N.length : Int), .int .i64 (k : Int), .bool (decide ((k : Int) < (N.length : Int))), .int .i64 (k : Int), .pointer (some ((ad).add (k * 2))), .agg ([.int .i64 x.1, .string (strB x.2)] : List Value).toArray, .int .i64 (k : Int), .int .i64 i, .bool true, u, .agg ([.int .i64 x.1, .string (strB x.2)] : List Value).toArray, .slice (some ⟨g47, 0, none⟩) 1 1, v50, u23, undef]) rfl ?_
          refine hK28 _ _ ?_
          refine c_region (fun ops53 hops52 => ?_)
          clear hops52
          refine p_run (l' := _) _ (x_arith (k := .i64) (m := (k : Int)) (n := 1) .add (((k + 1 : Nat) : Int)) rfl rfl rfl (show IntKind.i64.wrap ((k : Int) + 1) = ((k + 1 : Nat) : Int) from ((wr64 (by omega)).trans (by omega))) rfl) rfl ?_
          refine p_run (l' := _) _ (x_move (.int .i64 ((k + 1 : Nat) : Int)) rfl rfl) rfl ?_
          refine wpList_nil ?_
          refine fr_at (l' := [.slice (some ad) N.length c, .int .i64 i, undef, undef, .slice none 0 0, v50, .int .i64 (k : Int), .pointer (some ⟨g33, 0, none⟩), v9, .slice (some ad) N.length c, .int .i64 (N.length : Int), .int .i64 ((k + 1 : Nat) : Int), .bool (decide ((k : Int) < (N.length : Int))), .int .i64 (k : Int), .pointer (some ((ad).add (k * 2))), .agg ([.int .i64 x.1, .string (strB x.2)] : List Value).toArray, .int .i64 (k : Int), .int .i64 i, .bool true, u, .agg ([.int .i64 x.1, .string (strB x.2)] : List Value).toArray, .slice (some ⟨g47, 0, none⟩) 1 1, v50, .int .i64 ((k + 1 : Nat) : Int), undef]) rfl ?_
          rw [show rp (woN N i k) ++ [(x.1, Value.string (strB x.2))] = rp (woN N i (k + 1)) from by rw [wo_take hne hx, rp_snoc]] at HS
          refine hJ18 (k + 1, v50) _ _ ?_ ?_
          · show N.length - (k + 1) < N.length - k; omega
          · exact ⟨_, _, _, _, _, _, _, _, _, _, _, _, _, _, rfl, ((((HS.front 1 rfl).drop.front 1 rfl).drop.front 1 rfl).front 1 rfl), (by omega)⟩
      · obtain rfl : N.length = k := by have := of_decide_eq_false hc26; omega
        rw [wo_all] at HS
        refine wp_exit ?_
        refine hK12 _ _ ?_
        refine wp_seq_k (fun K54 hK55 => ?_)
        refine c_region (fun ops57 hops56 => ?_)
        clear hops56
        refine p_run (l' := _) _ (x_move (u) rfl rfl) rfl ?_
        refine p_run (l' := _) _ (x_assign (u) rfl rfl) rfl ?_
        refine wpList_nil ?_
        refine fr_at (l' := [.slice A N.length c, .int .i64 i, undef, undef, u, u, u6, u7, v9, .slice A N.length c, .int .i64 (N.length : Int), .int .i64 (N.length : Int), .bool (decide ((N.length : Int) < (N.length : Int))), u13, u14, u15, u16, u17, u18, u19, u20, u21, u22, u23, u]) rfl ?_
        refine hK55 _ _ ?_
        refine wp_ret ?_
        try simp only [Exit.inBlock, Exit.then]
        refine c_ret (u) (r_tmp rfl rfl) ?_
        exact ⟨_, rfl, (HS.front 1 rfl).drop⟩
end
end Go.Proofs.Ytckfcnclekjjdaa
