/- DiskCuts. -/
import Derived.Test.YtjholgfaipfmbaaL4b
set_option linter.unusedVariables false
set_option linter.unusedSimpArgs false
namespace Go.Proofs.Ytjholgfaipfmbaa
open Go.RowKit Go.Proofs.YtjholgfaipfmbaaW.PrintWords Go.Proofs.YtjholgfaipfmbaaW.PrintLast
theorem bool_get {w : World} {A : Option Addr} {n : Nat} {ps : List Bool} (h : Kd.bool.C w A n ps) (j : Nat) (hj : j < ps.length) : ∃ ad b, A = some ad ∧ ps[j]? = some b ∧ w.cell? (ad.add (j * 1)) = some (.bool b) := by
  obtain ⟨ad, e, hc⟩ := h.2.2 (by have := h.1; omega)
  obtain ⟨c, hs, hr, hcell⟩ := hc j _ (List.getElem?_eq_getElem hj)
  refine ⟨ad, ps[j], e, List.getElem?_eq_getElem hj, ?_⟩
  exact hcell 0 (.bool ps[j]) (by rw [show c = [.bool ps[j]] from hr]; rfl)
/-- So many acts are done: what holds behind i of them. -/
def CutI (n : Int) (i : Nat) (S : Dk) : Prop := S.good i ∧ S.stable.length = 4 ∧ S.left = (if (i : Int) < n then n - i else 0) ∧ S.down = decide (n < (i : Int))
section
variable {n : Int} {i : Nat} {S : Dk}
theorem cut_start (hn : 0 ≤ n) (hn2 : n < 9223372036854775808) : CutI n 0 ((Dk.new 4).cut n) := by
  refine ⟨good_cut (good_new 4) n hn2, rfl, ?_, ?_⟩
  · show (if (-1 : Int) > n then -1 else n) = _
    rw [if_neg (by omega)]
    split <;> omega
  · show false = _
    rw [decide_eq_false (by omega)]
theorem cut_acts (h : CutI n i S) (hn : 0 ≤ n) : S.acts = decide ((i : Int) < n) := by
  obtain ⟨-, -, h1, h2⟩ := h
  unfold Dk.acts
  rw [h1, h2]
  by_cases c : (i : Int) < n
  · rw [if_pos c, decide_eq_false (by omega), decide_eq_true c, decide_eq_false (by omega)]; rfl
  · rw [if_neg c, decide_eq_false c]; simp
theorem cut_act (h : CutI n i S) (hn : 0 ≤ n) : S.act.left = (if ((i + 1 : Nat) : Int) < n then n - ((i + 1 : Nat) : Int) else 0) ∧ S.act.down = decide (n < ((i + 1 : Nat) : Int)) := by
  have ha := cut_acts h hn
  obtain ⟨-, -, h1, h2⟩ := h
  unfold Dk.act
  by_cases c : (i : Int) < n
  · rw [ha, decide_eq_true c, if_pos rfl]
    dsimp only
    rw [h1, h2, if_pos c, if_pos (by omega)]
    refine ⟨?_, ?_⟩
    · split <;> omega
    · rw [decide_eq_false (by omega), decide_eq_false (by omega)]
  · rw [ha, decide_eq_false c, if_neg (by decide)]
    dsimp only
    rw [h1, if_neg c, if_neg (by omega), decide_eq_true (by omega)]
    exact ⟨rfl, rfl⟩
theorem cut_sync (h : CutI n i S) (hn : 0 ≤ n) : CutI n (i + 1) S.sync := by
  obtain ⟨h1, h2⟩ := cut_act h hn
  refine ⟨(good_sync h.1).mono (Nat.le_succ _), (sy_length h.1).trans h.2.1, ?_, ?_⟩ <;> (unfold Dk.sync; split <;> assumption)
theorem cut_there (h : CutI n i S) {j : Int} (hj : 0 ≤ j ∧ j < 4) : S.there j = true := by
  unfold Dk.there
  rw [h.2.1]
  exact decide_eq_true hj
theorem cut_write (h : CutI n i S) (hn : 0 ≤ n) {j : Int} (hj : 0 ≤ j ∧ j < 4) (c : Int) : CutI n (i + 1) (S.write j (rep c)) := by
  obtain ⟨h1, h2⟩ := cut_act h hn
  refine ⟨good_write h.1 j (rep_len c), by rw [wr_stable]; exact h.2.1, ?_, ?_⟩ <;> (unfold Dk.write; rw [if_pos (cut_there h hj)]; split <;> assumption)
theorem cut_writeE (h : CutI n i S) {j : Int} (hj : 0 ≤ j ∧ j < 4) : S.writeE j = S.actE := if_pos (cut_there h hj)
theorem cr_length {keep : List Int} {m : Nat} (h : S.good m) : (S.crash keep).stable.length = S.stable.length := (settleL_ok (maskOf keep) S.pending 0 S.stable h.ok.1 h.ok.2.2.2.2).2
end

theorem there_end {n : Int} {i : Nat} {S : Dk} (h : CutI n i S) : ((S.crash []).settle (fun _ => 255)).there 0 = true := by
  have e1 := cr_length (keep := []) h.1
  have hg := good_crash h.1 []
  have e2 : ((S.crash []).settle (fun _ => 255)).stable.length = 4 := by
    show (settleL _ _ _ _).length = _
    rw [(settleL_ok (fun _ => 255) (S.crash []).pending 0 (S.crash []).stable hg.ok.1 hg.ok.2.2.2.2).2, e1, h.2.1]
  unfold Dk.there
  rw [e2]
  decide

set_option maxRecDepth 10000 in
set_option maxHeartbeats 4000000 in
theorem cuts_law (w : World) (n : Int) (hn2 : n < 9223372036854775808) (A0 : Option Addr) (c0 : Nat) (l0 : List Bool) (hr0 : Kd.bool.C w A0 l0.length l0) : Calls Try.prog 3 #[.int .i64 n, .slice A0 l0.length c0] w fun e w' => e = .returned (.bool true) ∧ Below w.heap.size w w' := by
  have HS := St.empty w
  by_cases h00 : n < 0
  · skip
    have h0 := decide_eq_true h00
    refine c_enter Try.func3 rfl 73 rfl [.int .i64 n, .slice A0 l0.length c0, undef, undef, undef, undef, undef, undef, undef, undef, undef, undef, undef, undef, undef, undef, undef, undef, undef, undef, undef, undef, undef, undef, undef, undef, undef, undef, undef, undef, undef, undef, undef, undef, undef, undef, undef, undef, undef, undef, undef, undef, undef, undef, undef, undef, undef, undef, undef, undef, undef, undef, undef, undef, undef, undef, undef, undef, undef, undef, undef, undef, undef, undef, undef, undef, undef, undef, undef, undef, undef, undef, undef] rfl ?_
    refine wp_seq_k (fun K1 hK2 => ?_)
    refine c_region (fun ops4 hops3 => ?_)
    clear hops3
    refine p_run (l' := _) _ (x_assign (.bool false) rfl rfl) rfl ?_
    refine wpList_nil ?_
    refine fr_at (l' := [.int .i64 n, .slice A0 l0.length c0, undef, undef, .bool false, undef, undef, undef, undef, undef, undef, undef, undef, undef, undef, undef, undef, undef, undef, undef, undef, undef, undef, undef, undef, undef, undef, undef, undef, undef, undef, undef, undef, undef, undef, undef, undef, undef, undef, undef, undef, undef, undef, undef, undef, undef, undef, undef, undef, undef, undef, undef, undef, undef, undef, undef, undef, undef, undef, undef, undef, undef, undef, undef, undef, undef, undef, undef, undef, undef, undef, undef, undef]) rfl ?_
    refine hK2 _ _ ?_
    refine wp_seq_k (fun K5 hK6 => ?_)
    refine wp_seq_k (fun K7 hK8 => ?_)
    refine c_region (fun ops10 hops9 => ?_)
    clear hops9
    refine w_call [] Try.func9 (by kernel_rfl) (by rfl) rfl ?_
    refine (alive_any HS).mono ?_
    clear HS
    rintro e w11 ⟨rfl, HS⟩
    refine ⟨_, rfl, ?_⟩
    refine p_run (l' := _) _ (x_not true rfl rfl) rfl ?_
    refine wpList_nil ?_
    refine fr_at (l' := [.int .i64 n, .slice A0 l0.length c0, undef, undef, .bool false, undef, undef, undef, undef, .bool true, .bool false, undef, undef, undef, undef, undef, undef, undef, undef, undef, undef, undef, undef, undef, undef, undef, undef, undef, undef, undef, undef, undef, undef, undef, undef, undef, undef, undef, undef, undef, undef, undef, undef, undef, undef, undef, undef, undef, undef, undef, undef, undef, undef, undef, undef, undef, undef, undef, undef, undef, undef, undef, undef, undef, undef, undef, undef, undef, undef, undef, undef, undef, undef]) rfl ?_
    refine hK8 _ _ ?_
    refine c_false rfl ?_
    refine wp_skip ?_
    refine hK6 _ _ ?_
    refine wp_seq_k (fun K12 hK13 => ?_)
    refine wp_seq_k (fun K14 hK15 => ?_)
    refine c_region (fun ops17 hops16 => ?_)
    refine p_run (l' := _) _ (x_move (.int .i64 n) rfl rfl) rfl ?_
    refine p_run (l' := _) _ (x_cmp (k := .i64) (m := n) (n := 0) .lss true rfl rfl rfl h0 rfl) rfl ?_
    refine p_run (l' := _) _ (x_move (.bool true) rfl rfl) rfl ?_
    refine p_off (l' := [.int .i64 n, .slice A0 l0.length c0, undef, undef, .bool false, undef, undef, undef, undef, .bool true, .bool false, .int .i64 n, .bool true, .bool true, undef, undef, undef, undef, undef, undef, undef, undef, undef, undef, undef, undef, undef, undef, undef, undef, undef, undef, undef, undef, undef, undef, undef, undef, undef, undef, undef, undef, undef, undef, undef, undef, undef, undef, undef, undef, undef, undef, undef, undef, undef, undef, undef, undef, undef, undef, undef, undef, undef, undef, undef, undef, undef, undef, undef, undef, undef, undef, undef]) (by rw [hops16]; rfl) rfl ?_
    refine p_off (l' := _) (by rw [hops16]; rfl) rfl ?_
    refine p_off (l' := _) (by rw [hops16]; rfl) rfl ?_
    refine p_run (l' := _) _ (x_pick true (.bool true) (undef) (.bool true) rfl rfl rfl rfl rfl) rfl ?_
    clear hops16
    refine wpList_nil ?_
    refine fr_at (l' := [.int .i64 n, .slice A0 l0.length c0, undef, undef, .bool false, undef, undef, undef, undef, .bool true, .bool false, .int .i64 n, .bool true, .bool true, undef, undef, undef, .bool true, undef, undef, undef, undef, undef, undef, undef, undef, undef, undef, undef, undef, undef, undef, undef, undef, undef, undef, undef, undef, undef, undef, undef, undef, undef, undef, undef, undef, undef, undef, undef, undef, undef, undef, undef, undef, undef, undef, undef, undef, undef, undef, undef, undef, undef, undef, undef, undef, undef, undef, undef, undef, undef, undef, undef]) rfl ?_
    refine hK15 _ _ ?_
    refine c_true rfl ?_
    refine wp_seq_k (fun K18 hK19 => ?_)
    refine c_region (fun ops21 hops20 => ?_)
    clear hops20
    refine p_run (l' := _) _ (x_assign (.bool true) rfl rfl) rfl ?_
    refine wpList_nil ?_
    refine fr_at (l' := [.int .i64 n, .slice A0 l0.length c0, undef, undef, .bool true, undef, undef, undef, undef, .bool true, .bool false, .int .i64 n, .bool true, .bool true, undef, undef, undef, .bool true, undef, undef, undef, undef, undef, undef, undef, undef, undef, undef, undef, undef, undef, undef, undef, undef, undef, undef, undef, undef, undef, undef, undef, undef, undef, undef, undef, undef, undef, undef, undef, undef, undef, undef, undef, undef, undef, undef, undef, undef, undef, undef, undef, undef, undef, undef, undef, undef, undef, undef, undef, undef, undef, undef, undef]) rfl ?_
    refine hK19 _ _ ?_
    refine wp_ret ?_
    try simp only [Exit.inBlock, Exit.then]
    refine c_ret (.bool true) (r_tmp rfl rfl) ?_
    exact ⟨rfl, HS.belowOf⟩
  · skip
    have h0 := decide_eq_false h00
    have hn : 0 ≤ n := by omega
    by_cases h11 : (l0.length : Int) > 100
    · skip
      have h1 := decide_eq_true h11
      refine c_enter Try.func3 rfl 73 rfl [.int .i64 n, .slice A0 l0.length c0, undef, undef, undef, undef, undef, undef, undef, undef, undef, undef, undef, undef, undef, undef, undef, undef, undef, undef, undef, undef, undef, undef, undef, undef, undef, undef, undef, undef, undef, undef, undef, undef, undef, undef, undef, undef, undef, undef, undef, undef, undef, undef, undef, undef, undef, undef, undef, undef, undef, undef, undef, undef, undef, undef, undef, undef, undef, undef, undef, undef, undef, undef, undef, undef, undef, undef, undef, undef, undef, undef, undef] rfl ?_
      refine wp_seq_k (fun K1 hK2 => ?_)
      refine c_region (fun ops4 hops3 => ?_)
      clear hops3
      refine p_run (l' := _) _ (x_assign (.bool false) rfl rfl) rfl ?_
      refine wpList_nil ?_
      refine fr_at (l' := [.int .i64 n, .slice A0 l0.length c0, undef, undef, .bool false, undef, undef, undef, undef, undef, undef, undef, undef, undef, undef, undef, undef, undef, undef, undef, undef, undef, undef, undef, undef, undef, undef, undef, undef, undef, undef, undef, undef, undef, undef, undef, undef, undef, undef, undef, undef, undef, undef, undef, undef, undef, undef, undef, undef, undef, undef, undef, undef, undef, undef, undef, undef, undef, undef, undef, undef, undef, undef, undef, undef, undef, undef, undef, undef, undef, undef, undef, undef]) rfl ?_
      refine hK2 _ _ ?_
      refine wp_seq_k (fun K5 hK6 => ?_)
      refine wp_seq_k (fun K7 hK8 => ?_)
      refine c_region (fun ops10 hops9 => ?_)
      clear hops9
      refine w_call [] Try.func9 (by kernel_rfl) (by rfl) rfl ?_
      refine (alive_any HS).mono ?_
      clear HS
      rintro e w11 ⟨rfl, HS⟩
      refine ⟨_, rfl, ?_⟩
      refine p_run (l' := _) _ (x_not true rfl rfl) rfl ?_
      refine wpList_nil ?_
      refine fr_at (l' := [.int .i64 n, .slice A0 l0.length c0, undef, undef, .bool false, undef, undef, undef, undef, .bool true, .bool false, undef, undef, undef, undef, undef, undef, undef, undef, undef, undef, undef, undef, undef, undef, undef, undef, undef, undef, undef, undef, undef, undef, undef, undef, undef, undef, undef, undef, undef, undef, undef, undef, undef, undef, undef, undef, undef, undef, undef, undef, undef, undef, undef, undef, undef, undef, undef, undef, undef, undef, undef, undef, undef, undef, undef, undef, undef, undef, undef, undef, undef, undef]) rfl ?_
      refine hK8 _ _ ?_
      refine c_false rfl ?_
      refine wp_skip ?_
      refine hK6 _ _ ?_
      refine wp_seq_k (fun K12 hK13 => ?_)
      refine wp_seq_k (fun K14 hK15 => ?_)
      refine c_region (fun ops17 hops16 => ?_)
      refine p_run (l' := _) _ (x_move (.int .i64 n) rfl rfl) rfl ?_
      refine p_run (l' := _) _ (x_cmp (k := .i64) (m := n) (n := 0) .lss false rfl rfl rfl h0 rfl) rfl ?_
      refine p_run (l' := _) _ (x_move (.bool false) rfl rfl) rfl ?_
      refine p_on rfl (by rw [hops16]; rfl) ?_
      refine p_run (l' := [.int .i64 n, .slice A0 l0.length c0, undef, undef, .bool false, undef, undef, undef, undef, .bool true, .bool false, .int .i64 n, .bool false, .bool false, .slice A0 l0.length c0, undef, undef, undef, undef, undef, undef, undef, undef, undef, undef, undef, undef, undef, undef, undef, undef, undef, undef, undef, undef, undef, undef, undef, undef, undef, undef, undef, undef, undef, undef, undef, undef, undef, undef, undef, undef, undef, undef, undef, undef, undef, undef, undef, undef, undef, undef, undef, undef, undef, undef, undef, undef, undef, undef, undef, undef, undef, undef]) _ (x_move (.slice A0 l0.length c0) rfl rfl) rfl ?_
      refine p_on rfl (by rw [hops16]; rfl) ?_
      refine p_run (l' := _) _ (x_len rfl rfl Try.underlying22) rfl ?_
      refine p_on rfl (by rw [hops16]; rfl) ?_
      refine p_run (l' := _) _ (x_cmp (k := .i64) (m := (l0.length : Int)) (n := 100) .gtr true rfl rfl rfl h1 rfl) rfl ?_
      refine p_run (l' := _) _ (x_pick false (.bool true) (.bool true) (.bool true) rfl rfl rfl rfl rfl) rfl ?_
      clear hops16
      refine wpList_nil ?_
      refine fr_at (l' := [.int .i64 n, .slice A0 l0.length c0, undef, undef, .bool false, undef, undef, undef, undef, .bool true, .bool false, .int .i64 n, .bool false, .bool false, .slice A0 l0.length c0, .int .i64 (l0.length : Int), .bool true, .bool true, undef, undef, undef, undef, undef, undef, undef, undef, undef, undef, undef, undef, undef, undef, undef, undef, undef, undef, undef, undef, undef, undef, undef, undef, undef, undef, undef, undef, undef, undef, undef, undef, undef, undef, undef, undef, undef, undef, undef, undef, undef, undef, undef, undef, undef, undef, undef, undef, undef, undef, undef, undef, undef, undef, undef]) rfl ?_
      refine hK15 _ _ ?_
      refine c_true rfl ?_
      refine wp_seq_k (fun K18 hK19 => ?_)
      refine c_region (fun ops21 hops20 => ?_)
      clear hops20
      refine p_run (l' := _) _ (x_assign (.bool true) rfl rfl) rfl ?_
      refine wpList_nil ?_
      refine fr_at (l' := [.int .i64 n, .slice A0 l0.length c0, undef, undef, .bool true, undef, undef, undef, undef, .bool true, .bool false, .int .i64 n, .bool false, .bool false, .slice A0 l0.length c0, .int .i64 (l0.length : Int), .bool true, .bool true, undef, undef, undef, undef, undef, undef, undef, undef, undef, undef, undef, undef, undef, undef, undef, undef, undef, undef, undef, undef, undef, undef, undef, undef, undef, undef, undef, undef, undef, undef, undef, undef, undef, undef, undef, undef, undef, undef, undef, undef, undef, undef, undef, undef, undef, undef, undef, undef, undef, undef, undef, undef, undef, undef, undef]) rfl ?_
      refine hK19 _ _ ?_
      refine wp_ret ?_
      try simp only [Exit.inBlock, Exit.then]
      refine c_ret (.bool true) (r_tmp rfl rfl) ?_
      exact ⟨rfl, HS.belowOf⟩
    · skip
      have h1 := decide_eq_false h11
      refine c_enter Try.func3 rfl 73 rfl [.int .i64 n, .slice A0 l0.length c0, undef, undef, undef, undef, undef, undef, undef, undef, undef, undef, undef, undef, undef, undef, undef, undef, undef, undef, undef, undef, undef, undef, undef, undef, undef, undef, undef, undef, undef, undef, undef, undef, undef, undef, undef, undef, undef, undef, undef, undef, undef, undef, undef, undef, undef, undef, undef, undef, undef, undef, undef, undef, undef, undef, undef, undef, undef, undef, undef, undef, undef, undef, undef, undef, undef, undef, undef, undef, undef, undef, undef] rfl ?_
      refine wp_seq_k (fun K1 hK2 => ?_)
      refine c_region (fun ops4 hops3 => ?_)
      clear hops3
      refine p_run (l' := _) _ (x_assign (.bool false) rfl rfl) rfl ?_
      refine wpList_nil ?_
      refine fr_at (l' := [.int .i64 n, .slice A0 l0.length c0, undef, undef, .bool false, undef, undef, undef, undef, undef, undef, undef, undef, undef, undef, undef, undef, undef, undef, undef, undef, undef, undef, undef, undef, undef, undef, undef, undef, undef, undef, undef, undef, undef, undef, undef, undef, undef, undef, undef, undef, undef, undef, undef, undef, undef, undef, undef, undef, undef, undef, undef, undef, undef, undef, undef, undef, undef, undef, undef, undef, undef, undef, undef, undef, undef, undef, undef, undef, undef, undef, undef, undef]) rfl ?_
      refine hK2 _ _ ?_
      refine wp_seq_k (fun K5 hK6 => ?_)
      refine wp_seq_k (fun K7 hK8 => ?_)
      refine c_region (fun ops10 hops9 => ?_)
      clear hops9
      refine w_call [] Try.func9 (by kernel_rfl) (by rfl) rfl ?_
      refine (alive_any HS).mono ?_
      clear HS
      rintro e w11 ⟨rfl, HS⟩
      refine ⟨_, rfl, ?_⟩
      refine p_run (l' := _) _ (x_not true rfl rfl) rfl ?_
      refine wpList_nil ?_
      refine fr_at (l' := [.int .i64 n, .slice A0 l0.length c0, undef, undef, .bool false, undef, undef, undef, undef, .bool true, .bool false, undef, undef, undef, undef, undef, undef, undef, undef, undef, undef, undef, undef, undef, undef, undef, undef, undef, undef, undef, undef, undef, undef, undef, undef, undef, undef, undef, undef, undef, undef, undef, undef, undef, undef, undef, undef, undef, undef, undef, undef, undef, undef, undef, undef, undef, undef, undef, undef, undef, undef, undef, undef, undef, undef, undef, undef, undef, undef, undef, undef, undef, undef]) rfl ?_
      refine hK8 _ _ ?_
      refine c_false rfl ?_
      refine wp_skip ?_
      refine hK6 _ _ ?_
      refine wp_seq_k (fun K12 hK13 => ?_)
      refine wp_seq_k (fun K14 hK15 => ?_)
      refine c_region (fun ops17 hops16 => ?_)
      refine p_run (l' := _) _ (x_move (.int .i64 n) rfl rfl) rfl ?_
      refine p_run (l' := _) _ (x_cmp (k := .i64) (m := n) (n := 0) .lss false rfl rfl rfl h0 rfl) rfl ?_
      refine p_run (l' := _) _ (x_move (.bool false) rfl rfl) rfl ?_
      refine p_on rfl (by rw [hops16]; rfl) ?_
      refine p_run (l' := [.int .i64 n, .slice A0 l0.length c0, undef, undef, .bool false, undef, undef, undef, undef, .bool true, .bool false, .int .i64 n, .bool false, .bool false, .slice A0 l0.length c0, undef, undef, undef, undef, undef, undef, undef, undef, undef, undef, undef, undef, undef, undef, undef, undef, undef, undef, undef, undef, undef, undef, undef, undef, undef, undef, undef, undef, undef, undef, undef, undef, undef, undef, undef, undef, undef, undef, undef, undef, undef, undef, undef, undef, undef, undef, undef, undef, undef, undef, undef, undef, undef, undef, undef, undef, undef, undef]) _ (x_move (.slice A0 l0.length c0) rfl rfl) rfl ?_
      refine p_on rfl (by rw [hops16]; rfl) ?_
      refine p_run (l' := _) _ (x_len rfl rfl Try.underlying22) rfl ?_
      refine p_on rfl (by rw [hops16]; rfl) ?_
      refine p_run (l' := _) _ (x_cmp (k := .i64) (m := (l0.length : Int)) (n := 100) .gtr false rfl rfl rfl h1 rfl) rfl ?_
      refine p_run (l' := _) _ (x_pick false (.bool true) (.bool false) (.bool false) rfl rfl rfl rfl rfl) rfl ?_
      clear hops16
      refine wpList_nil ?_
      refine fr_at (l' := [.int .i64 n, .slice A0 l0.length c0, undef, undef, .bool false, undef, undef, undef, undef, .bool true, .bool false, .int .i64 n, .bool false, .bool false, .slice A0 l0.length c0, .int .i64 (l0.length : Int), .bool false, .bool false, undef, undef, undef, undef, undef, undef, undef, undef, undef, undef, undef, undef, undef, undef, undef, undef, undef, undef, undef, undef, undef, undef, undef, undef, undef, undef, undef, undef, undef, undef, undef, undef, undef, undef, undef, undef, undef, undef, undef, undef, undef, undef, undef, undef, undef, undef, undef, undef, undef, undef, undef, undef, undef, undef, undef]) rfl ?_
      refine hK15 _ _ ?_
      refine c_false rfl ?_
      refine wp_skip ?_
      refine hK13 _ _ ?_
      refine wp_seq_k (fun K18 hK19 => ?_)
      refine c_region (fun ops21 hops20 => ?_)
      clear hops20
      refine w_call [.int .i64 4] Try.func10 (by kernel_rfl) (by rfl) rfl ?_
      refine (new_any HS 4).mono ?_
      clear HS
      rintro e w25 ⟨D22, gs23, gm24, rfl, HS⟩
      have hgd26 := good_new 4
      refine ⟨_, rfl, ?_⟩
      refine p_run (l' := _) _ (x_assign (.pointer (some ⟨D22, 0, none⟩)) rfl rfl) rfl ?_
      refine wpList_nil ?_
      refine fr_at (l' := [.int .i64 n, .slice A0 l0.length c0, undef, undef, .bool false, .pointer (some ⟨D22, 0, none⟩), undef, undef, undef, .bool true, .bool false, .int .i64 n, .bool false, .bool false, .slice A0 l0.length c0, .int .i64 (l0.length : Int), .bool false, .bool false, .pointer (some ⟨D22, 0, none⟩), undef, undef, undef, undef, undef, undef, undef, undef, undef, undef, undef, undef, undef, undef, undef, undef, undef, undef, undef, undef, undef, undef, undef, undef, undef, undef, undef, undef, undef, undef, undef, undef, undef, undef, undef, undef, undef, undef, undef, undef, undef, undef, undef, undef, undef, undef, undef, undef, undef, undef, undef, undef, undef, undef]) rfl ?_
      refine hK19 _ _ ?_
      refine wp_seq_k (fun K27 hK28 => ?_)
      refine c_region (fun ops30 hops29 => ?_)
      clear hops29
      refine p_run (l' := _) _ (x_move (.pointer (some ⟨D22, 0, none⟩)) rfl rfl) rfl ?_
      refine p_run (l' := _) _ (x_move (.int .i64 n) rfl rfl) rfl ?_
      refine w_call [.pointer (some ⟨D22, 0, none⟩), .int .i64 n] Try.func11 (by kernel_rfl) (by rfl) rfl ?_
      replace HS := ((((HS.front 3 rfl).front 3 rfl).front 3 rfl).front 3 rfl)
      refine (cut_any HS n).mono ?_
      clear HS
      rintro e w31 ⟨rfl, HS⟩
      have hgd32 : Dk.good ((Dk.new 4).cut n) (0) := good_cut hgd26 n (by omega)
      refine ⟨_, rfl, ?_⟩
      refine wpList_nil ?_
      refine fr_at (l' := [.int .i64 n, .slice A0 l0.length c0, undef, undef, .bool false, .pointer (some ⟨D22, 0, none⟩), undef, undef, undef, .bool true, .bool false, .int .i64 n, .bool false, .bool false, .slice A0 l0.length c0, .int .i64 (l0.length : Int), .bool false, .bool false, .pointer (some ⟨D22, 0, none⟩), .pointer (some ⟨D22, 0, none⟩), .int .i64 n, .tuple [].toArray, undef, undef, undef, undef, undef, undef, undef, undef, undef, undef, undef, undef, undef, undef, undef, undef, undef, undef, undef, undef, undef, undef, undef, undef, undef, undef, undef, undef, undef, undef, undef, undef, undef, undef, undef, undef, undef, undef, undef, undef, undef, undef, undef, undef, undef, undef, undef, undef, undef, undef, undef]) rfl ?_
      refine hK28 _ _ ?_
      refine wp_seq_k (fun K33 hK34 => ?_)
      refine wp_seq_k (fun K35 hK36 => ?_)
      refine c_region (fun ops38 hops37 => ?_)
      clear hops37
      refine p_run (l' := _) _ (x_move (.slice A0 l0.length c0) rfl rfl) rfl ?_
      refine p_run (l' := _) _ (x_len rfl rfl Try.underlying22) rfl ?_
      refine p_run (l' := _) _ (x_move (.int .i64 0) rfl rfl) rfl ?_
      refine wpList_nil ?_
      refine fr_at (l' := [.int .i64 n, .slice A0 l0.length c0, undef, undef, .bool false, .pointer (some ⟨D22, 0, none⟩), undef, undef, undef, .bool true, .bool false, .int .i64 n, .bool false, .bool false, .slice A0 l0.length c0, .int .i64 (l0.length : Int), .bool false, .bool false, .pointer (some ⟨D22, 0, none⟩), .pointer (some ⟨D22, 0, none⟩), .int .i64 n, .tuple [].toArray, .slice A0 l0.length c0, .int .i64 (l0.length : Int), .int .i64 0, undef, undef, undef, undef, undef, undef, undef, undef, undef, undef, undef, undef, undef, undef, undef, undef, undef, undef, undef, undef, undef, undef, undef, undef, undef, undef, undef, undef, undef, undef, undef, undef, undef, undef, undef, undef, undef, undef, undef, undef, undef, undef, undef, undef, undef, undef, undef, undef]) rfl ?_
      refine hK36 _ _ ?_
      refine wp_block ?_
      refine c_loop (ι := Nat × Dk × Value) (fun i_ a_ w_ => match i_ with | (i, S, v) => ∃ (u4 : Value) (u6 : Value) (u7 : Value) (u8 : Value) (u25 : Value) (u26 : Value) (u27 : Value) (u28 : Value) (u29 : Value) (u30 : Value) (u31 : Value) (u32 : Value) (u33 : Value) (u34 : Value) (u35 : Value) (u36 : Value) (u37 : Value) (u38 : Value) (u39 : Value) (u40 : Value) (u41 : Value) (u42 : Value) (u43 : Value) (u44 : Value) (u45 : Value) (u46 : Value) (u47 : Value) (u48 : Value) (u49 : Value) (u50 : Value) (u51 : Value) (u52 : Value) (u53 : Value) (u54 : Value) (u55 : Value) (u56 : Value) (u57 : Value) (u58 : Value) (u59 : Value) (u60 : Value) (u61 : Value), a_ = fr [.int .i64 n, .slice A0 l0.length c0, undef, undef, u4, .pointer (some ⟨D22, 0, none⟩), u6, u7, u8, .bool true, .bool false, .int .i64 n, .bool false, .bool false, .slice A0 l0.length c0, .int .i64 (l0.length : Int), .bool false, .bool false, .pointer (some ⟨D22, 0, none⟩), .pointer (some ⟨D22, 0, none⟩), .int .i64 n, .tuple [].toArray, .slice A0 l0.length c0, .int .i64 (l0.length : Int), .int .i64 (i : Int), u25, u26, u27, u28, u29, u30, u31, u32, u33, u34, u35, u36, u37, u38, u39, u40, u41, u42, u43, u44, u45, u46, u47, u48, u49, u50, u51, u52, u53, u54, u55, u56, u57, u58, u59, u60, u61, undef, undef, undef, undef, undef, undef, undef, undef, undef, undef, undef] ∧ St w (fun _ => False) w_ ([blk D22 (dskC gs23 gm24 v S) 66, blk gs23 (pgs S.stable) 31, mapR gm24 S.cnt S.bad, row kWr rfl 71 v S.pending]) ∧ (CutI n i S ∧ i ≤ l0.length)) (fun i_ => match i_ with | (i, S, v) => l0.length - i) (0, ((Dk.new 4).cut n), .slice none 0 0) ?_ ?_
      · exact ⟨_, _, _, _, _, _, _, _, _, _, _, _, _, _, _, _, _, _, _, _, _, _, _, _, _, _, _, _, _, _, _, _, _, _, _, _, _, _, _, _, _, rfl, HS, ⟨cut_start hn hn2, Nat.zero_le _⟩⟩
      · clear HS
        rintro ⟨i, S, v⟩ a_ w41 ⟨u4, u6, u7, u8, u25, u26, u27, u28, u29, u30, u31, u32, u33, u34, u35, u36, u37, u38, u39, u40, u41, u42, u43, u44, u45, u46, u47, u48, u49, u50, u51, u52, u53, u54, u55, u56, u57, u58, u59, u60, u61, rfl, HS, hI⟩ J39 hJ40
        obtain ⟨hI, hil⟩ := hI
        refine wp_seq_k (fun K42 hK43 => ?_)
        refine c_region (fun ops45 hops44 => ?_)
        clear hops44
        refine p_run (l' := _) _ (x_cmp (k := .i64) (m := (i : Int)) (n := (l0.length : Int)) .lss (decide ((i : Int) < (l0.length : Int))) rfl rfl rfl rfl rfl) rfl ?_
        refine wpList_nil ?_
        refine fr_at (l' := [.int .i64 n, .slice A0 l0.length c0, undef, undef, u4, .pointer (some ⟨D22, 0, none⟩), u6, u7, u8, .bool true, .bool false, .int .i64 n, .bool false, .bool false, .slice A0 l0.length c0, .int .i64 (l0.length : Int), .bool false, .bool false, .pointer (some ⟨D22, 0, none⟩), .pointer (some ⟨D22, 0, none⟩), .int .i64 n, .tuple [].toArray, .slice A0 l0.length c0, .int .i64 (l0.length : Int), .int .i64 (i : Int), .bool (decide ((i : Int) < (l0.length : Int))), u26, u27, u28, u29, u30, u31, u32, u33, u34, u35, u36, u37, u38, u39, u40, u41, u42, u43, u44, u45, u46, u47, u48, u49, u50, u51, u52, u53, u54, u55, u56, u57, u58, u59, u60, u61, undef, undef, undef, undef, undef, undef, undef, undef, undef, undef, undef]) rfl ?_
        refine hK43 _ _ ?_
        refine wp_seq_k (fun K46 hK47 => ?_)
        refine c_cond (t := decide ((i : Int) < (l0.length : Int))) rfl (fun hc48 => ?_) (fun hc48 => ?_)
        · have hlt : i < l0.length := by have := of_decide_eq_true hc48; omega
          obtain ⟨ad, sb, rfl, hsb, hcell⟩ := bool_get (Kd.C_below hr0 HS.belowOf) i hlt
          have hi4 : 0 ≤ (i : Int) % 4 ∧ (i : Int) % 4 < 4 := by omega
          refine wp_skip ?_
          refine hK47 _ _ ?_
          refine wp_seq_k (fun K49 hK50 => ?_)
          refine wp_block ?_
          refine wp_seq_k (fun K51 hK52 => ?_)
          refine c_region (fun ops54 hops53 => ?_)
          clear hops53
          refine p_run (l' := _) _ (x_move (.int .i64 (i : Int)) rfl rfl) rfl ?_
          refine p_run (l' := _) _ (x_index (A := ad) (j := i * 1) rfl rfl rfl Try.underlying22 (by kernel_rfl) (by omega) rfl) rfl ?_
          refine p_run (l' := _) _ (x_load (.bool sb) rfl rfl hcell (by rfl)) rfl ?_
          refine p_run (l' := [.int .i64 n, .slice (some ad) l0.length c0, undef, undef, u4, .pointer (some ⟨D22, 0, none⟩), .int .i64 (i : Int), u7, u8, .bool true, .bool false, .int .i64 n, .bool false, .bool false, .slice (some ad) l0.length c0, .int .i64 (l0.length : Int), .bool false, .bool false, .pointer (some ⟨D22, 0, none⟩), .pointer (some ⟨D22, 0, none⟩), .int .i64 n, .tuple [].toArray, .slice (some ad) l0.length c0, .int .i64 (l0.length : Int), .int .i64 (i : Int), .bool (decide ((i : Int) < (l0.length : Int))), .int .i64 (i : Int), .pointer (some ((ad).add (i * 1))), .bool sb, u29, u30, u31, u32, u33, u34, u35, u36, u37, u38, u39, u40, u41, u42, u43, u44, u45, u46, u47, u48, u49, u50, u51, u52, u53, u54, u55, u56, u57, u58, u59, u60, u61, undef, undef, undef, undef, undef, undef, undef, undef, undef, undef, undef]) _ (x_assign (.int .i64 (i : Int)) rfl rfl) rfl ?_
          refine p_run (l' := _) _ (x_assign (.bool sb) rfl rfl) rfl ?_
          refine wpList_nil ?_
          refine fr_at (l' := [.int .i64 n, .slice (some ad) l0.length c0, undef, undef, u4, .pointer (some ⟨D22, 0, none⟩), .int .i64 (i : Int), .bool sb, u8, .bool true, .bool false, .int .i64 n, .bool false, .bool false, .slice (some ad) l0.length c0, .int .i64 (l0.length : Int), .bool false, .bool false, .pointer (some ⟨D22, 0, none⟩), .pointer (some ⟨D22, 0, none⟩), .int .i64 n, .tuple [].toArray, .slice (some ad) l0.length c0, .int .i64 (l0.length : Int), .int .i64 (i : Int), .bool (decide ((i : Int) < (l0.length : Int))), .int .i64 (i : Int), .pointer (some ((ad).add (i * 1))), .bool sb, u29, u30, u31, u32, u33, u34, u35, u36, u37, u38, u39, u40, u41, u42, u43, u44, u45, u46, u47, u48, u49, u50, u51, u52, u53, u54, u55, u56, u57, u58, u59, u60, u61, undef, undef, undef, undef, undef, undef, undef, undef, undef, undef, undef]) rfl ?_
          refine hK52 _ _ ?_
          refine wp_seq_k (fun K55 hK56 => ?_)
          refine c_region (fun ops58 hops57 => ?_)
          clear hops57
          refine p_run (l' := _) _ (x_assign (.int .i64 0) rfl rfl) rfl ?_
          refine wpList_nil ?_
          refine fr_at (l' := [.int .i64 n, .slice (some ad) l0.length c0, undef, undef, u4, .pointer (some ⟨D22, 0, none⟩), .int .i64 (i : Int), .bool sb, .int .i64 0, .bool true, .bool false, .int .i64 n, .bool false, .bool false, .slice (some ad) l0.length c0, .int .i64 (l0.length : Int), .bool false, .bool false, .pointer (some ⟨D22, 0, none⟩), .pointer (some ⟨D22, 0, none⟩), .int .i64 n, .tuple [].toArray, .slice (some ad) l0.length c0, .int .i64 (l0.length : Int), .int .i64 (i : Int), .bool (decide ((i : Int) < (l0.length : Int))), .int .i64 (i : Int), .pointer (some ((ad).add (i * 1))), .bool sb, u29, u30, u31, u32, u33, u34, u35, u36, u37, u38, u39, u40, u41, u42, u43, u44, u45, u46, u47, u48, u49, u50, u51, u52, u53, u54, u55, u56, u57, u58, u59, u60, u61, undef, undef, undef, undef, undef, undef, undef, undef, undef, undef, undef]) rfl ?_
          refine hK56 _ _ ?_
          refine wp_seq_k (fun K59 hK60 => ?_)
          refine wp_seq_k (fun K61 hK62 => ?_)
          refine c_region (fun ops64 hops63 => ?_)
          clear hops63
          refine p_run (l' := _) _ (x_move (.bool sb) rfl rfl) rfl ?_
          refine wpList_nil ?_
          refine fr_at (l' := [.int .i64 n, .slice (some ad) l0.length c0, undef, undef, u4, .pointer (some ⟨D22, 0, none⟩), .int .i64 (i : Int), .bool sb, .int .i64 0, .bool true, .bool false, .int .i64 n, .bool false, .bool false, .slice (some ad) l0.length c0, .int .i64 (l0.length : Int), .bool false, .bool false, .pointer (some ⟨D22, 0, none⟩), .pointer (some ⟨D22, 0, none⟩), .int .i64 n, .tuple [].toArray, .slice (some ad) l0.length c0, .int .i64 (l0.length : Int), .int .i64 (i : Int), .bool (decide ((i : Int) < (l0.length : Int))), .int .i64 (i : Int), .pointer (some ((ad).add (i * 1))), .bool sb, .bool sb, u30, u31, u32, u33, u34, u35, u36, u37, u38, u39, u40, u41, u42, u43, u44, u45, u46, u47, u48, u49, u50, u51, u52, u53, u54, u55, u56, u57, u58, u59, u60, u61, undef, undef, undef, undef, undef, undef, undef, undef, undef, undef, undef]) rfl ?_
          refine hK62 _ _ ?_
          refine c_cond (t := sb) rfl (fun hc65 => ?_) (fun hc65 => ?_)
          · refine c_region (fun ops67 hops66 => ?_)
            clear hops66
            refine p_run (l' := _) _ (x_move (.pointer (some ⟨D22, 0, none⟩)) rfl rfl) rfl ?_
            refine w_call [.pointer (some ⟨D22, 0, none⟩)] Try.func12 (by kernel_rfl) (by rfl) rfl ?_
            replace HS := ((((HS.front 3 rfl).front 3 rfl).front 3 rfl).front 3 rfl)
            refine (sync_any HS hI.1.ok (by have := hI.1.pn; omega)).mono ?_
            clear HS
            rintro e w69 ⟨v68, rfl, HS⟩
            have hgd70 : Dk.good S.sync (i) := good_sync hI.1
            refine ⟨_, rfl, ?_⟩
            refine p_run (l' := _) _ (x_assign (.int .i64 S.actE) rfl rfl) rfl ?_
            refine wpList_nil ?_
            refine fr_at (l' := [.int .i64 n, .slice (some ad) l0.length c0, undef, undef, u4, .pointer (some ⟨D22, 0, none⟩), .int .i64 (i : Int), .bool sb, .int .i64 S.actE, .bool true, .bool false, .int .i64 n, .bool false, .bool false, .slice (some ad) l0.length c0, .int .i64 (l0.length : Int), .bool false, .bool false, .pointer (some ⟨D22, 0, none⟩), .pointer (some ⟨D22, 0, none⟩), .int .i64 n, .tuple [].toArray, .slice (some ad) l0.length c0, .int .i64 (l0.length : Int), .int .i64 (i : Int), .bool (decide ((i : Int) < (l0.length : Int))), .int .i64 (i : Int), .pointer (some ((ad).add (i * 1))), .bool sb, .bool sb, .pointer (some ⟨D22, 0, none⟩), .int .i64 S.actE, u32, u33, u34, u35, u36, u37, u38, u39, u40, u41, u42, u43, u44, u45, u46, u47, u48, u49, u50, u51, u52, u53, u54, u55, u56, u57, u58, u59, u60, u61, undef, undef, undef, undef, undef, undef, undef, undef, undef, undef, undef]) rfl ?_
            refine hK60 _ _ ?_
            refine wp_seq_k (fun K71 hK72 => ?_)
            by_cases hin : (i : Int) < n
            · skip
              have hae : S.actE = 0 := by rw [actE_eq, cut_acts hI hn, decide_eq_true hin, if_pos rfl]
              have hw2 := (cut_write hI hn hi4 (IntKind.u8.wrap (i : Int))).2.2.2
              have hs2 := (cut_sync hI hn).2.2.2
              rw [decide_eq_false (by omega)] at hw2 hs2
              refine c_region (fun ops74 hops73 => ?_)
              refine p_run (l' := _) _ (x_move (.int .i64 S.actE) rfl rfl) rfl ?_
              refine p_run (l' := _) _ (x_cmp (k := .i64) (m := S.actE) (n := 0) .eql true rfl rfl rfl (by unfold cmpB; (try rw [cut_writeE hI hi4]); rw [hae]; rfl) rfl) rfl ?_
              refine p_run (l' := _) _ (x_move (.int .i64 (i : Int)) rfl rfl) rfl ?_
              refine p_run (l' := [.int .i64 n, .slice (some ad) l0.length c0, undef, undef, u4, .pointer (some ⟨D22, 0, none⟩), .int .i64 (i : Int), .bool sb, .int .i64 S.actE, .bool true, .bool false, .int .i64 n, .bool false, .bool false, .slice (some ad) l0.length c0, .int .i64 (l0.length : Int), .bool false, .bool false, .pointer (some ⟨D22, 0, none⟩), .pointer (some ⟨D22, 0, none⟩), .int .i64 n, .tuple [].toArray, .slice (some ad) l0.length c0, .int .i64 (l0.length : Int), .int .i64 (i : Int), .bool (decide ((i : Int) < (l0.length : Int))), .int .i64 (i : Int), .pointer (some ((ad).add (i * 1))), .bool sb, .bool sb, .pointer (some ⟨D22, 0, none⟩), .int .i64 S.actE, u32, u33, u34, u35, u36, u37, u38, .int .i64 S.actE, .bool true, .int .i64 (i : Int), .int .i64 n, u43, u44, u45, u46, u47, u48, u49, u50, u51, u52, u53, u54, u55, u56, u57, u58, u59, u60, u61, undef, undef, undef, undef, undef, undef, undef, undef, undef, undef, undef]) _ (x_move (.int .i64 n) rfl rfl) rfl ?_
              refine p_run (l' := _) _ (x_cmp (k := .i64) (m := (i : Int)) (n := n) .lss true rfl rfl rfl (decide_eq_true hin) rfl) rfl ?_
              refine p_run (l' := _) _ (x_boolcmp .neq true true false rfl rfl rfl Try.underlying4 rfl rfl) rfl ?_
              refine p_run (l' := _) _ (x_move (.bool false) rfl rfl) rfl ?_
              refine p_on rfl (by rw [hops73]; rfl) ?_
              refine p_run (l' := [.int .i64 n, .slice (some ad) l0.length c0, undef, undef, u4, .pointer (some ⟨D22, 0, none⟩), .int .i64 (i : Int), .bool sb, .int .i64 S.actE, .bool true, .bool false, .int .i64 n, .bool false, .bool false, .slice (some ad) l0.length c0, .int .i64 (l0.length : Int), .bool false, .bool false, .pointer (some ⟨D22, 0, none⟩), .pointer (some ⟨D22, 0, none⟩), .int .i64 n, .tuple [].toArray, .slice (some ad) l0.length c0, .int .i64 (l0.length : Int), .int .i64 (i : Int), .bool (decide ((i : Int) < (l0.length : Int))), .int .i64 (i : Int), .pointer (some ((ad).add (i * 1))), .bool sb, .bool sb, .pointer (some ⟨D22, 0, none⟩), .int .i64 S.actE, u32, u33, u34, u35, u36, u37, u38, .int .i64 S.actE, .bool true, .int .i64 (i : Int), .int .i64 n, .bool true, .bool false, .bool false, .int .i64 S.actE, u47, u48, u49, u50, u51, u52, u53, u54, u55, u56, u57, u58, u59, u60, u61, undef, undef, undef, undef, undef, undef, undef, undef, undef, undef, undef]) _ (x_move (.int .i64 S.actE) rfl rfl) rfl ?_
              refine p_on rfl (by rw [hops73]; rfl) ?_
              refine p_run (l' := _) _ (x_cmp (k := .i64) (m := S.actE) (n := 0) .neq false rfl rfl rfl (by unfold cmpB; (try rw [cut_writeE hI hi4]); rw [hae]; rfl) rfl) rfl ?_
              refine p_on rfl (by rw [hops73]; rfl) ?_
              refine p_run (l' := _) _ (x_move (.bool false) rfl rfl) rfl ?_
              refine p_off (l' := _) (by rw [hops73]; rfl) rfl ?_
              refine p_off (l' := [.int .i64 n, .slice (some ad) l0.length c0, undef, undef, u4, .pointer (some ⟨D22, 0, none⟩), .int .i64 (i : Int), .bool sb, .int .i64 S.actE, .bool true, .bool false, .int .i64 n, .bool false, .bool false, .slice (some ad) l0.length c0, .int .i64 (l0.length : Int), .bool false, .bool false, .pointer (some ⟨D22, 0, none⟩), .pointer (some ⟨D22, 0, none⟩), .int .i64 n, .tuple [].toArray, .slice (some ad) l0.length c0, .int .i64 (l0.length : Int), .int .i64 (i : Int), .bool (decide ((i : Int) < (l0.length : Int))), .int .i64 (i : Int), .pointer (some ((ad).add (i * 1))), .bool sb, .bool sb, .pointer (some ⟨D22, 0, none⟩), .int .i64 S.actE, u32, u33, u34, u35, u36, u37, u38, .int .i64 S.actE, .bool true, .int .i64 (i : Int), .int .i64 n, .bool true, .bool false, .bool false, .int .i64 S.actE, .bool false, .bool false, undef, undef, u51, u52, u53, u54, u55, u56, u57, u58, u59, u60, u61, undef, undef, undef, undef, undef, undef, undef, undef, undef, undef, undef]) (by rw [hops73]; rfl) rfl ?_
              refine p_on rfl (by rw [hops73]; rfl) ?_
              refine p_run (l' := _) _ (x_pick false (undef) (.bool false) (.bool false) rfl rfl rfl rfl rfl) rfl ?_
              refine p_run (l' := _) _ (x_pick false (.bool true) (.bool false) (.bool false) rfl rfl rfl rfl rfl) rfl ?_
              refine p_run (l' := _) _ (x_move (.bool false) rfl rfl) rfl ?_
              refine p_on rfl (by rw [hops73]; rfl) ?_
              refine p_run (l' := [.int .i64 n, .slice (some ad) l0.length c0, undef, undef, u4, .pointer (some ⟨D22, 0, none⟩), .int .i64 (i : Int), .bool sb, .int .i64 S.actE, .bool true, .bool false, .int .i64 n, .bool false, .bool false, .slice (some ad) l0.length c0, .int .i64 (l0.length : Int), .bool false, .bool false, .pointer (some ⟨D22, 0, none⟩), .pointer (some ⟨D22, 0, none⟩), .int .i64 n, .tuple [].toArray, .slice (some ad) l0.length c0, .int .i64 (l0.length : Int), .int .i64 (i : Int), .bool (decide ((i : Int) < (l0.length : Int))), .int .i64 (i : Int), .pointer (some ((ad).add (i * 1))), .bool sb, .bool sb, .pointer (some ⟨D22, 0, none⟩), .int .i64 S.actE, u32, u33, u34, u35, u36, u37, u38, .int .i64 S.actE, .bool true, .int .i64 (i : Int), .int .i64 n, .bool true, .bool false, .bool false, .int .i64 S.actE, .bool false, .bool false, undef, undef, .bool false, .bool false, .bool false, .pointer (some ⟨D22, 0, none⟩), u55, u56, u57, u58, u59, u60, u61, undef, undef, undef, undef, undef, undef, undef, undef, undef, undef, undef]) _ (x_move (.pointer (some ⟨D22, 0, none⟩)) rfl rfl) rfl ?_
              refine p_on rfl (by rw [hops73]; rfl) ?_
              refine w_call [.pointer (some ⟨D22, 0, none⟩)] Try.func15 (by kernel_rfl) (by rfl) rfl ?_
              replace HS := ((((HS.front 3 rfl).front 3 rfl).front 3 rfl).front 3 rfl)
              refine (down_any HS).mono ?_
              rintro e w' ⟨he_, rfl⟩
              rw [show S.sync.down = false from (by first | exact hw2 | exact hs2)] at he_
              subst he_
              refine ⟨_, rfl, ?_⟩
              refine p_on rfl (by rw [hops73]; rfl) ?_
              refine p_run (l' := _) _ (x_move (.int .i64 (i : Int)) rfl rfl) rfl ?_
              refine p_on rfl (by rw [hops73]; rfl) ?_
              refine p_run (l' := _) _ (x_move (.int .i64 n) rfl rfl) rfl ?_
              refine p_on rfl (by rw [hops73]; rfl) ?_
              refine p_run (l' := [.int .i64 n, .slice (some ad) l0.length c0, undef, undef, u4, .pointer (some ⟨D22, 0, none⟩), .int .i64 (i : Int), .bool sb, .int .i64 S.actE, .bool true, .bool false, .int .i64 n, .bool false, .bool false, .slice (some ad) l0.length c0, .int .i64 (l0.length : Int), .bool false, .bool false, .pointer (some ⟨D22, 0, none⟩), .pointer (some ⟨D22, 0, none⟩), .int .i64 n, .tuple [].toArray, .slice (some ad) l0.length c0, .int .i64 (l0.length : Int), .int .i64 (i : Int), .bool (decide ((i : Int) < (l0.length : Int))), .int .i64 (i : Int), .pointer (some ((ad).add (i * 1))), .bool sb, .bool sb, .pointer (some ⟨D22, 0, none⟩), .int .i64 S.actE, u32, u33, u34, u35, u36, u37, u38, .int .i64 S.actE, .bool true, .int .i64 (i : Int), .int .i64 n, .bool true, .bool false, .bool false, .int .i64 S.actE, .bool false, .bool false, undef, undef, .bool false, .bool false, .bool false, .pointer (some ⟨D22, 0, none⟩), .bool false, .int .i64 (i : Int), .int .i64 n, .bool false, u59, u60, u61, undef, undef, undef, undef, undef, undef, undef, undef, undef, undef, undef]) _ (x_cmp (k := .i64) (m := (i : Int)) (n := n) .geq false rfl rfl rfl (show decide _ = _ from decide_eq_false (by omega)) rfl) rfl ?_
              refine p_on rfl (by rw [hops73]; rfl) ?_
              refine p_run (l' := _) _ (x_boolcmp .neq false false false rfl rfl rfl Try.underlying4 rfl rfl) rfl ?_
              refine p_run (l' := _) _ (x_pick false (.bool true) (.bool false) (.bool false) rfl rfl rfl rfl rfl) rfl ?_
              clear hops73
              refine wpList_nil ?_
              refine fr_at (l' := [.int .i64 n, .slice (some ad) l0.length c0, undef, undef, u4, .pointer (some ⟨D22, 0, none⟩), .int .i64 (i : Int), .bool sb, .int .i64 S.actE, .bool true, .bool false, .int .i64 n, .bool false, .bool false, .slice (some ad) l0.length c0, .int .i64 (l0.length : Int), .bool false, .bool false, .pointer (some ⟨D22, 0, none⟩), .pointer (some ⟨D22, 0, none⟩), .int .i64 n, .tuple [].toArray, .slice (some ad) l0.length c0, .int .i64 (l0.length : Int), .int .i64 (i : Int), .bool (decide ((i : Int) < (l0.length : Int))), .int .i64 (i : Int), .pointer (some ((ad).add (i * 1))), .bool sb, .bool sb, .pointer (some ⟨D22, 0, none⟩), .int .i64 S.actE, u32, u33, u34, u35, u36, u37, u38, .int .i64 S.actE, .bool true, .int .i64 (i : Int), .int .i64 n, .bool true, .bool false, .bool false, .int .i64 S.actE, .bool false, .bool false, undef, undef, .bool false, .bool false, .bool false, .pointer (some ⟨D22, 0, none⟩), .bool false, .int .i64 (i : Int), .int .i64 n, .bool false, .bool false, .bool false, u61, undef, undef, undef, undef, undef, undef, undef, undef, undef, undef, undef]) rfl ?_
              refine hK72 _ _ ?_
              refine c_false rfl ?_
              refine wp_skip ?_
              refine hK50 _ _ ?_
              refine c_region (fun ops76 hops75 => ?_)
              clear hops75
              refine p_run (l' := _) _ (x_arith (k := .i64) (m := (i : Int)) (n := 1) .add (((i + 1 : Nat) : Int)) rfl rfl rfl (show IntKind.i64.wrap ((i : Int) + 1) = ((i + 1 : Nat) : Int) from ((wr64 (by omega)).trans (by omega))) rfl) rfl ?_
              refine p_run (l' := _) _ (x_move (.int .i64 ((i + 1 : Nat) : Int)) rfl rfl) rfl ?_
              refine wpList_nil ?_
              refine fr_at (l' := [.int .i64 n, .slice (some ad) l0.length c0, undef, undef, u4, .pointer (some ⟨D22, 0, none⟩), .int .i64 (i : Int), .bool sb, .int .i64 S.actE, .bool true, .bool false, .int .i64 n, .bool false, .bool false, .slice (some ad) l0.length c0, .int .i64 (l0.length : Int), .bool false, .bool false, .pointer (some ⟨D22, 0, none⟩), .pointer (some ⟨D22, 0, none⟩), .int .i64 n, .tuple [].toArray, .slice (some ad) l0.length c0, .int .i64 (l0.length : Int), .int .i64 ((i + 1 : Nat) : Int), .bool (decide ((i : Int) < (l0.length : Int))), .int .i64 (i : Int), .pointer (some ((ad).add (i * 1))), .bool sb, .bool sb, .pointer (some ⟨D22, 0, none⟩), .int .i64 S.actE, u32, u33, u34, u35, u36, u37, u38, .int .i64 S.actE, .bool true, .int .i64 (i : Int), .int .i64 n, .bool true, .bool false, .bool false, .int .i64 S.actE, .bool false, .bool false, undef, undef, .bool false, .bool false, .bool false, .pointer (some ⟨D22, 0, none⟩), .bool false, .int .i64 (i : Int), .int .i64 n, .bool false, .bool false, .bool false, .int .i64 ((i + 1 : Nat) : Int), undef, undef, undef, undef, undef, undef, undef, undef, undef, undef, undef]) rfl ?_
              refine hJ40 (i + 1, S.sync, v68) _ _ ?_ ?_
              · show l0.length - (i + 1) < l0.length - i; omega
              · exact ⟨_, _, _, _, _, _, _, _, _, _, _, _, _, _, _, _, _, _, _, _, _, _, _, _, _, _, _, _, _, _, _, _, _, _, _, _, _, _, _, _, _, rfl, ((((HS.front 3 rfl).front 3 rfl).front 3 rfl).front 3 rfl), ⟨cut_sync hI hn, by omega⟩⟩
            · skip
              have hae : S.actE = 42 := by rw [actE_eq, cut_acts hI hn, decide_eq_false hin, if_neg (by decide)]
              have hw2 := (cut_write hI hn hi4 (IntKind.u8.wrap (i : Int))).2.2.2
              have hs2 := (cut_sync hI hn).2.2.2
              rw [decide_eq_true (by omega)] at hw2 hs2
              refine c_region (fun ops78 hops77 => ?_)
              refine p_run (l' := _) _ (x_move (.int .i64 S.actE) rfl rfl) rfl ?_
              refine p_run (l' := _) _ (x_cmp (k := .i64) (m := S.actE) (n := 0) .eql false rfl rfl rfl (by unfold cmpB; (try rw [cut_writeE hI hi4]); rw [hae]; rfl) rfl) rfl ?_
              refine p_run (l' := _) _ (x_move (.int .i64 (i : Int)) rfl rfl) rfl ?_
              refine p_run (l' := [.int .i64 n, .slice (some ad) l0.length c0, undef, undef, u4, .pointer (some ⟨D22, 0, none⟩), .int .i64 (i : Int), .bool sb, .int .i64 S.actE, .bool true, .bool false, .int .i64 n, .bool false, .bool false, .slice (some ad) l0.length c0, .int .i64 (l0.length : Int), .bool false, .bool false, .pointer (some ⟨D22, 0, none⟩), .pointer (some ⟨D22, 0, none⟩), .int .i64 n, .tuple [].toArray, .slice (some ad) l0.length c0, .int .i64 (l0.length : Int), .int .i64 (i : Int), .bool (decide ((i : Int) < (l0.length : Int))), .int .i64 (i : Int), .pointer (some ((ad).add (i * 1))), .bool sb, .bool sb, .pointer (some ⟨D22, 0, none⟩), .int .i64 S.actE, u32, u33, u34, u35, u36, u37, u38, .int .i64 S.actE, .bool false, .int .i64 (i : Int), .int .i64 n, u43, u44, u45, u46, u47, u48, u49, u50, u51, u52, u53, u54, u55, u56, u57, u58, u59, u60, u61, undef, undef, undef, undef, undef, undef, undef, undef, undef, undef, undef]) _ (x_move (.int .i64 n) rfl rfl) rfl ?_
              refine p_run (l' := _) _ (x_cmp (k := .i64) (m := (i : Int)) (n := n) .lss false rfl rfl rfl (decide_eq_false hin) rfl) rfl ?_
              refine p_run (l' := _) _ (x_boolcmp .neq false false false rfl rfl rfl Try.underlying4 rfl rfl) rfl ?_
              refine p_run (l' := _) _ (x_move (.bool false) rfl rfl) rfl ?_
              refine p_on rfl (by rw [hops77]; rfl) ?_
              refine p_run (l' := [.int .i64 n, .slice (some ad) l0.length c0, undef, undef, u4, .pointer (some ⟨D22, 0, none⟩), .int .i64 (i : Int), .bool sb, .int .i64 S.actE, .bool true, .bool false, .int .i64 n, .bool false, .bool false, .slice (some ad) l0.length c0, .int .i64 (l0.length : Int), .bool false, .bool false, .pointer (some ⟨D22, 0, none⟩), .pointer (some ⟨D22, 0, none⟩), .int .i64 n, .tuple [].toArray, .slice (some ad) l0.length c0, .int .i64 (l0.length : Int), .int .i64 (i : Int), .bool (decide ((i : Int) < (l0.length : Int))), .int .i64 (i : Int), .pointer (some ((ad).add (i * 1))), .bool sb, .bool sb, .pointer (some ⟨D22, 0, none⟩), .int .i64 S.actE, u32, u33, u34, u35, u36, u37, u38, .int .i64 S.actE, .bool false, .int .i64 (i : Int), .int .i64 n, .bool false, .bool false, .bool false, .int .i64 S.actE, u47, u48, u49, u50, u51, u52, u53, u54, u55, u56, u57, u58, u59, u60, u61, undef, undef, undef, undef, undef, undef, undef, undef, undef, undef, undef]) _ (x_move (.int .i64 S.actE) rfl rfl) rfl ?_
              refine p_on rfl (by rw [hops77]; rfl) ?_
              refine p_run (l' := _) _ (x_cmp (k := .i64) (m := S.actE) (n := 0) .neq true rfl rfl rfl (by unfold cmpB; (try rw [cut_writeE hI hi4]); rw [hae]; rfl) rfl) rfl ?_
              refine p_on rfl (by rw [hops77]; rfl) ?_
              refine p_run (l' := _) _ (x_move (.bool true) rfl rfl) rfl ?_
              refine p_on rfl (by rw [hops77]; rfl) ?_
              refine p_run (l' := _) _ (x_move (.int .i64 S.actE) rfl rfl) rfl ?_
              refine p_on rfl (by rw [hops77]; rfl) ?_
              refine p_run (l' := [.int .i64 n, .slice (some ad) l0.length c0, undef, undef, u4, .pointer (some ⟨D22, 0, none⟩), .int .i64 (i : Int), .bool sb, .int .i64 S.actE, .bool true, .bool false, .int .i64 n, .bool false, .bool false, .slice (some ad) l0.length c0, .int .i64 (l0.length : Int), .bool false, .bool false, .pointer (some ⟨D22, 0, none⟩), .pointer (some ⟨D22, 0, none⟩), .int .i64 n, .tuple [].toArray, .slice (some ad) l0.length c0, .int .i64 (l0.length : Int), .int .i64 (i : Int), .bool (decide ((i : Int) < (l0.length : Int))), .int .i64 (i : Int), .pointer (some ((ad).add (i * 1))), .bool sb, .bool sb, .pointer (some ⟨D22, 0, none⟩), .int .i64 S.actE, u32, u33, u34, u35, u36, u37, u38, .int .i64 S.actE, .bool false, .int .i64 (i : Int), .int .i64 n, .bool false, .bool false, .bool false, .int .i64 S.actE, .bool true, .bool true, .int .i64 S.actE, .bool false, u51, u52, u53, u54, u55, u56, u57, u58, u59, u60, u61, undef, undef, undef, undef, undef, undef, undef, undef, undef, undef, undef]) _ (x_cmp (k := .i64) (m := S.actE) (n := 42) .neq false rfl rfl rfl (by unfold cmpB; (try rw [cut_writeE hI hi4]); rw [hae]; rfl) rfl) rfl ?_
              refine p_on rfl (by rw [hops77]; rfl) ?_
              refine p_run (l' := _) _ (x_pick true (.bool false) (.bool false) (.bool false) rfl rfl rfl rfl rfl) rfl ?_
              refine p_run (l' := _) _ (x_pick false (.bool true) (.bool false) (.bool false) rfl rfl rfl rfl rfl) rfl ?_
              refine p_run (l' := _) _ (x_move (.bool false) rfl rfl) rfl ?_
              refine p_on rfl (by rw [hops77]; rfl) ?_
              refine p_run (l' := [.int .i64 n, .slice (some ad) l0.length c0, undef, undef, u4, .pointer (some ⟨D22, 0, none⟩), .int .i64 (i : Int), .bool sb, .int .i64 S.actE, .bool true, .bool false, .int .i64 n, .bool false, .bool false, .slice (some ad) l0.length c0, .int .i64 (l0.length : Int), .bool false, .bool false, .pointer (some ⟨D22, 0, none⟩), .pointer (some ⟨D22, 0, none⟩), .int .i64 n, .tuple [].toArray, .slice (some ad) l0.length c0, .int .i64 (l0.length : Int), .int .i64 (i : Int), .bool (decide ((i : Int) < (l0.length : Int))), .int .i64 (i : Int), .pointer (some ((ad).add (i * 1))), .bool sb, .bool sb, .pointer (some ⟨D22, 0, none⟩), .int .i64 S.actE, u32, u33, u34, u35, u36, u37, u38, .int .i64 S.actE, .bool false, .int .i64 (i : Int), .int .i64 n, .bool false, .bool false, .bool false, .int .i64 S.actE, .bool true, .bool true, .int .i64 S.actE, .bool false, .bool false, .bool false, .bool false, .pointer (some ⟨D22, 0, none⟩), u55, u56, u57, u58, u59, u60, u61, undef, undef, undef, undef, undef, undef, undef, undef, undef, undef, undef]) _ (x_move (.pointer (some ⟨D22, 0, none⟩)) rfl rfl) rfl ?_
              refine p_on rfl (by rw [hops77]; rfl) ?_
              refine w_call [.pointer (some ⟨D22, 0, none⟩)] Try.func15 (by kernel_rfl) (by rfl) rfl ?_
              replace HS := ((((HS.front 3 rfl).front 3 rfl).front 3 rfl).front 3 rfl)
              refine (down_any HS).mono ?_
              rintro e w' ⟨he_, rfl⟩
              rw [show S.sync.down = true from (by first | exact hw2 | exact hs2)] at he_
              subst he_
              refine ⟨_, rfl, ?_⟩
              refine p_on rfl (by rw [hops77]; rfl) ?_
              refine p_run (l' := _) _ (x_move (.int .i64 (i : Int)) rfl rfl) rfl ?_
              refine p_on rfl (by rw [hops77]; rfl) ?_
              refine p_run (l' := _) _ (x_move (.int .i64 n) rfl rfl) rfl ?_
              refine p_on rfl (by rw [hops77]; rfl) ?_
              refine p_run (l' := [.int .i64 n, .slice (some ad) l0.length c0, undef, undef, u4, .pointer (some ⟨D22, 0, none⟩), .int .i64 (i : Int), .bool sb, .int .i64 S.actE, .bool true, .bool false, .int .i64 n, .bool false, .bool false, .slice (some ad) l0.length c0, .int .i64 (l0.length : Int), .bool false, .bool false, .pointer (some ⟨D22, 0, none⟩), .pointer (some ⟨D22, 0, none⟩), .int .i64 n, .tuple [].toArray, .slice (some ad) l0.length c0, .int .i64 (l0.length : Int), .int .i64 (i : Int), .bool (decide ((i : Int) < (l0.length : Int))), .int .i64 (i : Int), .pointer (some ((ad).add (i * 1))), .bool sb, .bool sb, .pointer (some ⟨D22, 0, none⟩), .int .i64 S.actE, u32, u33, u34, u35, u36, u37, u38, .int .i64 S.actE, .bool false, .int .i64 (i : Int), .int .i64 n, .bool false, .bool false, .bool false, .int .i64 S.actE, .bool true, .bool true, .int .i64 S.actE, .bool false, .bool false, .bool false, .bool false, .pointer (some ⟨D22, 0, none⟩), .bool true, .int .i64 (i : Int), .int .i64 n, .bool true, u59, u60, u61, undef, undef, undef, undef, undef, undef, undef, undef, undef, undef, undef]) _ (x_cmp (k := .i64) (m := (i : Int)) (n := n) .geq true rfl rfl rfl (show decide _ = _ from decide_eq_true (by omega)) rfl) rfl ?_
              refine p_on rfl (by rw [hops77]; rfl) ?_
              refine p_run (l' := _) _ (x_boolcmp .neq true true false rfl rfl rfl Try.underlying4 rfl rfl) rfl ?_
              refine p_run (l' := _) _ (x_pick false (.bool true) (.bool false) (.bool false) rfl rfl rfl rfl rfl) rfl ?_
              clear hops77
              refine wpList_nil ?_
              refine fr_at (l' := [.int .i64 n, .slice (some ad) l0.length c0, undef, undef, u4, .pointer (some ⟨D22, 0, none⟩), .int .i64 (i : Int), .bool sb, .int .i64 S.actE, .bool true, .bool false, .int .i64 n, .bool false, .bool false, .slice (some ad) l0.length c0, .int .i64 (l0.length : Int), .bool false, .bool false, .pointer (some ⟨D22, 0, none⟩), .pointer (some ⟨D22, 0, none⟩), .int .i64 n, .tuple [].toArray, .slice (some ad) l0.length c0, .int .i64 (l0.length : Int), .int .i64 (i : Int), .bool (decide ((i : Int) < (l0.length : Int))), .int .i64 (i : Int), .pointer (some ((ad).add (i * 1))), .bool sb, .bool sb, .pointer (some ⟨D22, 0, none⟩), .int .i64 S.actE, u32, u33, u34, u35, u36, u37, u38, .int .i64 S.actE, .bool false, .int .i64 (i : Int), .int .i64 n, .bool false, .bool false, .bool false, .int .i64 S.actE, .bool true, .bool true, .int .i64 S.actE, .bool false, .bool false, .bool false, .bool false, .pointer (some ⟨D22, 0, none⟩), .bool true, .int .i64 (i : Int), .int .i64 n, .bool true, .bool false, .bool false, u61, undef, undef, undef, undef, undef, undef, undef, undef, undef, undef, undef]) rfl ?_
              refine hK72 _ _ ?_
              refine c_false rfl ?_
              refine wp_skip ?_
              refine hK50 _ _ ?_
              refine c_region (fun ops80 hops79 => ?_)
              clear hops79
              refine p_run (l' := _) _ (x_arith (k := .i64) (m := (i : Int)) (n := 1) .add (((i + 1 : Nat) : Int)) rfl rfl rfl (show IntKind.i64.wrap ((i : Int) + 1) = ((i + 1 : Nat) : Int) from ((wr64 (by omega)).trans (by omega))) rfl) rfl ?_
              refine p_run (l' := _) _ (x_move (.int .i64 ((i + 1 : Nat) : Int)) rfl rfl) rfl ?_
              refine wpList_nil ?_
              refine fr_at (l' := [.int .i64 n, .slice (some ad) l0.length c0, undef, undef, u4, .pointer (some ⟨D22, 0, none⟩), .int .i64 (i : Int), .bool sb, .int .i64 S.actE, .bool true, .bool false, .int .i64 n, .bool false, .bool false, .slice (some ad) l0.length c0, .int .i64 (l0.length : Int), .bool false, .bool false, .pointer (some ⟨D22, 0, none⟩), .pointer (some ⟨D22, 0, none⟩), .int .i64 n, .tuple [].toArray, .slice (some ad) l0.length c0, .int .i64 (l0.length : Int), .int .i64 ((i + 1 : Nat) : Int), .bool (decide ((i : Int) < (l0.length : Int))), .int .i64 (i : Int), .pointer (some ((ad).add (i * 1))), .bool sb, .bool sb, .pointer (some ⟨D22, 0, none⟩), .int .i64 S.actE, u32, u33, u34, u35, u36, u37, u38, .int .i64 S.actE, .bool false, .int .i64 (i : Int), .int .i64 n, .bool false, .bool false, .bool false, .int .i64 S.actE, .bool true, .bool true, .int .i64 S.actE, .bool false, .bool false, .bool false, .bool false, .pointer (some ⟨D22, 0, none⟩), .bool true, .int .i64 (i : Int), .int .i64 n, .bool true, .bool false, .bool false, .int .i64 ((i + 1 : Nat) : Int), undef, undef, undef, undef, undef, undef, undef, undef, undef, undef, undef]) rfl ?_
              refine hJ40 (i + 1, S.sync, v68) _ _ ?_ ?_
              · show l0.length - (i + 1) < l0.length - i; omega
              · exact ⟨_, _, _, _, _, _, _, _, _, _, _, _, _, _, _, _, _, _, _, _, _, _, _, _, _, _, _, _, _, _, _, _, _, _, _, _, _, _, _, _, _, rfl, ((((HS.front 3 rfl).front 3 rfl).front 3 rfl).front 3 rfl), ⟨cut_sync hI hn, by omega⟩⟩
          · refine c_region (fun ops82 hops81 => ?_)
            clear hops81
            refine p_run (l' := _) _ (x_move (.pointer (some ⟨D22, 0, none⟩)) rfl rfl) rfl ?_
            refine p_run (l' := _) _ (x_move (.int .i64 (i : Int)) rfl rfl) rfl ?_
            refine p_run (l' := _) _ (x_rem (k := .i64) (m := (i : Int)) (n := 4) ((i : Int) % 4) rfl rfl rfl (by decide) (Int.tmod_eq_emod_of_nonneg (by omega))) rfl ?_
            refine p_run (l' := [.int .i64 n, .slice (some ad) l0.length c0, undef, undef, u4, .pointer (some ⟨D22, 0, none⟩), .int .i64 (i : Int), .bool sb, .int .i64 0, .bool true, .bool false, .int .i64 n, .bool false, .bool false, .slice (some ad) l0.length c0, .int .i64 (l0.length : Int), .bool false, .bool false, .pointer (some ⟨D22, 0, none⟩), .pointer (some ⟨D22, 0, none⟩), .int .i64 n, .tuple [].toArray, .slice (some ad) l0.length c0, .int .i64 (l0.length : Int), .int .i64 (i : Int), .bool (decide ((i : Int) < (l0.length : Int))), .int .i64 (i : Int), .pointer (some ((ad).add (i * 1))), .bool sb, .bool sb, u30, u31, .pointer (some ⟨D22, 0, none⟩), .int .i64 (i : Int), .int .i64 ((i : Int) % 4), .int .i64 (i : Int), u36, u37, u38, u39, u40, u41, u42, u43, u44, u45, u46, u47, u48, u49, u50, u51, u52, u53, u54, u55, u56, u57, u58, u59, u60, u61, undef, undef, undef, undef, undef, undef, undef, undef, undef, undef, undef]) _ (x_move (.int .i64 (i : Int)) rfl rfl) rfl ?_
            refine p_run (l' := _) _ (x_conv (k := .i64) (m := (i : Int)) .u8 (IntKind.u8.wrap (i : Int)) rfl (by rw [Try.underlying3]; rfl) Try.underlying5 rfl rfl) rfl ?_
            refine w_call [.int .u8 (IntKind.u8.wrap (i : Int))] Try.func14 (by kernel_rfl) (by rfl) rfl ?_
            refine (full_any HS (IntKind.u8.wrap (i : Int))).mono ?_
            clear HS
            rintro e w83 ⟨rfl, HS⟩
            refine ⟨_, rfl, ?_⟩
            refine w_call [.pointer (some ⟨D22, 0, none⟩), .int .i64 ((i : Int) % 4), .agg ((nums .u8 (rep (IntKind.u8.wrap (i : Int))))).toArray] Try.func13 (by kernel_rfl) (by rfl) rfl ?_
            replace HS := ((((HS.front 3 rfl).front 3 rfl).front 3 rfl).front 3 rfl)
            refine (write_any HS hI.1.lft (by have := hI.1.pn; omega) ((i : Int) % 4) (rep (IntKind.u8.wrap (i : Int))) (rep_len _)).mono ?_
            clear HS
            rintro e w85 ⟨v84, rfl, HS⟩
            have hgd86 : Dk.good (S.write ((i : Int) % 4) (rep (IntKind.u8.wrap (i : Int)))) (i + 1) := good_write hI.1 ((i : Int) % 4) (rep_len _)
            refine ⟨_, rfl, ?_⟩
            refine p_run (l' := [.int .i64 n, .slice (some ad) l0.length c0, undef, undef, u4, .pointer (some ⟨D22, 0, none⟩), .int .i64 (i : Int), .bool sb, .int .i64 (S.writeE ((i : Int) % 4)), .bool true, .bool false, .int .i64 n, .bool false, .bool false, .slice (some ad) l0.length c0, .int .i64 (l0.length : Int), .bool false, .bool false, .pointer (some ⟨D22, 0, none⟩), .pointer (some ⟨D22, 0, none⟩), .int .i64 n, .tuple [].toArray, .slice (some ad) l0.length c0, .int .i64 (l0.length : Int), .int .i64 (i : Int), .bool (decide ((i : Int) < (l0.length : Int))), .int .i64 (i : Int), .pointer (some ((ad).add (i * 1))), .bool sb, .bool sb, u30, u31, .pointer (some ⟨D22, 0, none⟩), .int .i64 (i : Int), .int .i64 ((i : Int) % 4), .int .i64 (i : Int), .int .u8 (IntKind.u8.wrap (i : Int)), .agg ((nums .u8 (rep (IntKind.u8.wrap (i : Int))))).toArray, .int .i64 (S.writeE ((i : Int) % 4)), u39, u40, u41, u42, u43, u44, u45, u46, u47, u48, u49, u50, u51, u52, u53, u54, u55, u56, u57, u58, u59, u60, u61, undef, undef, undef, undef, undef, undef, undef, undef, undef, undef, undef]) _ (x_assign (.int .i64 (S.writeE ((i : Int) % 4))) rfl rfl) rfl ?_
            refine wpList_nil ?_
            refine hK60 _ _ ?_
            refine wp_seq_k (fun K87 hK88 => ?_)
            by_cases hin : (i : Int) < n
            · skip
              have hae : S.actE = 0 := by rw [actE_eq, cut_acts hI hn, decide_eq_true hin, if_pos rfl]
              have hw2 := (cut_write hI hn hi4 (IntKind.u8.wrap (i : Int))).2.2.2
              have hs2 := (cut_sync hI hn).2.2.2
              rw [decide_eq_false (by omega)] at hw2 hs2
              refine c_region (fun ops90 hops89 => ?_)
              refine p_run (l' := _) _ (x_move (.int .i64 (S.writeE ((i : Int) % 4))) rfl rfl) rfl ?_
              refine p_run (l' := _) _ (x_cmp (k := .i64) (m := (S.writeE ((i : Int) % 4))) (n := 0) .eql true rfl rfl rfl (by unfold cmpB; (try rw [cut_writeE hI hi4]); rw [hae]; rfl) rfl) rfl ?_
              refine p_run (l' := _) _ (x_move (.int .i64 (i : Int)) rfl rfl) rfl ?_
              refine p_run (l' := [.int .i64 n, .slice (some ad) l0.length c0, undef, undef, u4, .pointer (some ⟨D22, 0, none⟩), .int .i64 (i : Int), .bool sb, .int .i64 (S.writeE ((i : Int) % 4)), .bool true, .bool false, .int .i64 n, .bool false, .bool false, .slice (some ad) l0.length c0, .int .i64 (l0.length : Int), .bool false, .bool false, .pointer (some ⟨D22, 0, none⟩), .pointer (some ⟨D22, 0, none⟩), .int .i64 n, .tuple [].toArray, .slice (some ad) l0.length c0, .int .i64 (l0.length : Int), .int .i64 (i : Int), .bool (decide ((i : Int) < (l0.length : Int))), .int .i64 (i : Int), .pointer (some ((ad).add (i * 1))), .bool sb, .bool sb, u30, u31, .pointer (some ⟨D22, 0, none⟩), .int .i64 (i : Int), .int .i64 ((i : Int) % 4), .int .i64 (i : Int), .int .u8 (IntKind.u8.wrap (i : Int)), .agg ((nums .u8 (rep (IntKind.u8.wrap (i : Int))))).toArray, .int .i64 (S.writeE ((i : Int) % 4)), .int .i64 (S.writeE ((i : Int) % 4)), .bool true, .int .i64 (i : Int), .int .i64 n, u43, u44, u45, u46, u47, u48, u49, u50, u51, u52, u53, u54, u55, u56, u57, u58, u59, u60, u61, undef, undef, undef, undef, undef, undef, undef, undef, undef, undef, undef]) _ (x_move (.int .i64 n) rfl rfl) rfl ?_
              refine p_run (l' := _) _ (x_cmp (k := .i64) (m := (i : Int)) (n := n) .lss true rfl rfl rfl (decide_eq_true hin) rfl) rfl ?_
              refine p_run (l' := _) _ (x_boolcmp .neq true true false rfl rfl rfl Try.underlying4 rfl rfl) rfl ?_
              refine p_run (l' := _) _ (x_move (.bool false) rfl rfl) rfl ?_
              refine p_on rfl (by rw [hops89]; rfl) ?_
              refine p_run (l' := [.int .i64 n, .slice (some ad) l0.length c0, undef, undef, u4, .pointer (some ⟨D22, 0, none⟩), .int .i64 (i : Int), .bool sb, .int .i64 (S.writeE ((i : Int) % 4)), .bool true, .bool false, .int .i64 n, .bool false, .bool false, .slice (some ad) l0.length c0, .int .i64 (l0.length : Int), .bool false, .bool false, .pointer (some ⟨D22, 0, none⟩), .pointer (some ⟨D22, 0, none⟩), .int .i64 n, .tuple [].toArray, .slice (some ad) l0.length c0, .int .i64 (l0.length : Int), .int .i64 (i : Int), .bool (decide ((i : Int) < (l0.length : Int))), .int .i64 (i : Int), .pointer (some ((ad).add (i * 1))), .bool sb, .bool sb, u30, u31, .pointer (some ⟨D22, 0, none⟩), .int .i64 (i : Int), .int .i64 ((i : Int) % 4), .int .i64 (i : Int), .int .u8 (IntKind.u8.wrap (i : Int)), .agg ((nums .u8 (rep (IntKind.u8.wrap (i : Int))))).toArray, .int .i64 (S.writeE ((i : Int) % 4)), .int .i64 (S.writeE ((i : Int) % 4)), .bool true, .int .i64 (i : Int), .int .i64 n, .bool true, .bool false, .bool false, .int .i64 (S.writeE ((i : Int) % 4)), u47, u48, u49, u50, u51, u52, u53, u54, u55, u56, u57, u58, u59, u60, u61, undef, undef, undef, undef, undef, undef, undef, undef, undef, undef, undef]) _ (x_move (.int .i64 (S.writeE ((i : Int) % 4))) rfl rfl) rfl ?_
              refine p_on rfl (by rw [hops89]; rfl) ?_
              refine p_run (l' := _) _ (x_cmp (k := .i64) (m := (S.writeE ((i : Int) % 4))) (n := 0) .neq false rfl rfl rfl (by unfold cmpB; (try rw [cut_writeE hI hi4]); rw [hae]; rfl) rfl) rfl ?_
              refine p_on rfl (by rw [hops89]; rfl) ?_
              refine p_run (l' := _) _ (x_move (.bool false) rfl rfl) rfl ?_
              refine p_off (l' := _) (by rw [hops89]; rfl) rfl ?_
              refine p_off (l' := [.int .i64 n, .slice (some ad) l0.length c0, undef, undef, u4, .pointer (some ⟨D22, 0, none⟩), .int .i64 (i : Int), .bool sb, .int .i64 (S.writeE ((i : Int) % 4)), .bool true, .bool false, .int .i64 n, .bool false, .bool false, .slice (some ad) l0.length c0, .int .i64 (l0.length : Int), .bool false, .bool false, .pointer (some ⟨D22, 0, none⟩), .pointer (some ⟨D22, 0, none⟩), .int .i64 n, .tuple [].toArray, .slice (some ad) l0.length c0, .int .i64 (l0.length : Int), .int .i64 (i : Int), .bool (decide ((i : Int) < (l0.length : Int))), .int .i64 (i : Int), .pointer (some ((ad).add (i * 1))), .bool sb, .bool sb, u30, u31, .pointer (some ⟨D22, 0, none⟩), .int .i64 (i : Int), .int .i64 ((i : Int) % 4), .int .i64 (i : Int), .int .u8 (IntKind.u8.wrap (i : Int)), .agg ((nums .u8 (rep (IntKind.u8.wrap (i : Int))))).toArray, .int .i64 (S.writeE ((i : Int) % 4)), .int .i64 (S.writeE ((i : Int) % 4)), .bool true, .int .i64 (i : Int), .int .i64 n, .bool true, .bool false, .bool false, .int .i64 (S.writeE ((i : Int) % 4)), .bool false, .bool false, undef, undef, u51, u52, u53, u54, u55, u56, u57, u58, u59, u60, u61, undef, undef, undef, undef, undef, undef, undef, undef, undef, undef, undef]) (by rw [hops89]; rfl) rfl ?_
              refine p_on rfl (by rw [hops89]; rfl) ?_
              refine p_run (l' := _) _ (x_pick false (undef) (.bool false) (.bool false) rfl rfl rfl rfl rfl) rfl ?_
              refine p_run (l' := _) _ (x_pick false (.bool true) (.bool false) (.bool false) rfl rfl rfl rfl rfl) rfl ?_
              refine p_run (l' := _) _ (x_move (.bool false) rfl rfl) rfl ?_
              refine p_on rfl (by rw [hops89]; rfl) ?_
              refine p_run (l' := [.int .i64 n, .slice (some ad) l0.length c0, undef, undef, u4, .pointer (some ⟨D22, 0, none⟩), .int .i64 (i : Int), .bool sb, .int .i64 (S.writeE ((i : Int) % 4)), .bool true, .bool false, .int .i64 n, .bool false, .bool false, .slice (some ad) l0.length c0, .int .i64 (l0.length : Int), .bool false, .bool false, .pointer (some ⟨D22, 0, none⟩), .pointer (some ⟨D22, 0, none⟩), .int .i64 n, .tuple [].toArray, .slice (some ad) l0.length c0, .int .i64 (l0.length : Int), .int .i64 (i : Int), .bool (decide ((i : Int) < (l0.length : Int))), .int .i64 (i : Int), .pointer (some ((ad).add (i * 1))), .bool sb, .bool sb, u30, u31, .pointer (some ⟨D22, 0, none⟩), .int .i64 (i : Int), .int .i64 ((i : Int) % 4), .int .i64 (i : Int), .int .u8 (IntKind.u8.wrap (i : Int)), .agg ((nums .u8 (rep (IntKind.u8.wrap (i : Int))))).toArray, .int .i64 (S.writeE ((i : Int) % 4)), .int .i64 (S.writeE ((i : Int) % 4)), .bool true, .int .i64 (i : Int), .int .i64 n, .bool true, .bool false, .bool false, .int .i64 (S.writeE ((i : Int) % 4)), .bool false, .bool false, undef, undef, .bool false, .bool false, .bool false, .pointer (some ⟨D22, 0, none⟩), u55, u56, u57, u58, u59, u60, u61, undef, undef, undef, undef, undef, undef, undef, undef, undef, undef, undef]) _ (x_move (.pointer (some ⟨D22, 0, none⟩)) rfl rfl) rfl ?_
              refine p_on rfl (by rw [hops89]; rfl) ?_
              refine w_call [.pointer (some ⟨D22, 0, none⟩)] Try.func15 (by kernel_rfl) (by rfl) rfl ?_
              replace HS := ((((HS.front 3 rfl).front 3 rfl).front 3 rfl).front 3 rfl)
              refine (down_any HS).mono ?_
              rintro e w' ⟨he_, rfl⟩
              rw [show (S.write ((i : Int) % 4) (rep (IntKind.u8.wrap (i : Int)))).down = false from (by first | exact hw2 | exact hs2)] at he_
              subst he_
              refine ⟨_, rfl, ?_⟩
              refine p_on rfl (by rw [hops89]; rfl) ?_
              refine p_run (l' := _) _ (x_move (.int .i64 (i : Int)) rfl rfl) rfl ?_
              refine p_on rfl (by rw [hops89]; rfl) ?_
              refine p_run (l' := _) _ (x_move (.int .i64 n) rfl rfl) rfl ?_
              refine p_on rfl (by rw [hops89]; rfl) ?_
              refine p_run (l' := [.int .i64 n, .slice (some ad) l0.length c0, undef, undef, u4, .pointer (some ⟨D22, 0, none⟩), .int .i64 (i : Int), .bool sb, .int .i64 (S.writeE ((i : Int) % 4)), .bool true, .bool false, .int .i64 n, .bool false, .bool false, .slice (some ad) l0.length c0, .int .i64 (l0.length : Int), .bool false, .bool false, .pointer (some ⟨D22, 0, none⟩), .pointer (some ⟨D22, 0, none⟩), .int .i64 n, .tuple [].toArray, .slice (some ad) l0.length c0, .int .i64 (l0.length : Int), .int .i64 (i : Int), .bool (decide ((i : Int) < (l0.length : Int))), .int .i64 (i : Int), .pointer (some ((ad).add (i * 1))), .bool sb, .bool sb, u30, u31, .pointer (some ⟨D22, 0, none⟩), .int .i64 (i : Int), .int .i64 ((i : Int) % 4), .int .i64 (i : Int), .int .u8 (IntKind.u8.wrap (i : Int)), .agg ((nums .u8 (rep (IntKind.u8.wrap (i : Int))))).toArray, .int .i64 (S.writeE ((i : Int) % 4)), .int .i64 (S.writeE ((i : Int) % 4)), .bool true, .int .i64 (i : Int), .int .i64 n, .bool true, .bool false, .bool false, .int .i64 (S.writeE ((i : Int) % 4)), .bool false, .bool false, undef, undef, .bool false, .bool false, .bool false, .pointer (some ⟨D22, 0, none⟩), .bool false, .int .i64 (i : Int), .int .i64 n, .bool false, u59, u60, u61, undef, undef, undef, undef, undef, undef, undef, undef, undef, undef, undef]) _ (x_cmp (k := .i64) (m := (i : Int)) (n := n) .geq false rfl rfl rfl (show decide _ = _ from decide_eq_false (by omega)) rfl) rfl ?_
              refine p_on rfl (by rw [hops89]; rfl) ?_
              refine p_run (l' := _) _ (x_boolcmp .neq false false false rfl rfl rfl Try.underlying4 rfl rfl) rfl ?_
              refine p_run (l' := _) _ (x_pick false (.bool true) (.bool false) (.bool false) rfl rfl rfl rfl rfl) rfl ?_
              clear hops89
              refine wpList_nil ?_
              refine fr_at (l' := [.int .i64 n, .slice (some ad) l0.length c0, undef, undef, u4, .pointer (some ⟨D22, 0, none⟩), .int .i64 (i : Int), .bool sb, .int .i64 (S.writeE ((i : Int) % 4)), .bool true, .bool false, .int .i64 n, .bool false, .bool false, .slice (some ad) l0.length c0, .int .i64 (l0.length : Int), .bool false, .bool false, .pointer (some ⟨D22, 0, none⟩), .pointer (some ⟨D22, 0, none⟩), .int .i64 n, .tuple [].toArray, .slice (some ad) l0.length c0, .int .i64 (l0.length : Int), .int .i64 (i : Int), .bool (decide ((i : Int) < (l0.length : Int))), .int .i64 (i : Int), .pointer (some ((ad).add (i * 1))), .bool sb, .bool sb, u30, u31, .pointer (some ⟨D22, 0, none⟩), .int .i64 (i : Int), .int .i64 ((i : Int) % 4), .int .i64 (i : Int), .int .u8 (IntKind.u8.wrap (i : Int)), .agg ((nums .u8 (rep (IntKind.u8.wrap (i : Int))))).toArray, .int .i64 (S.writeE ((i : Int) % 4)), .int .i64 (S.writeE ((i : Int) % 4)), .bool true, .int .i64 (i : Int), .int .i64 n, .bool true, .bool false, .bool false, .int .i64 (S.writeE ((i : Int) % 4)), .bool false, .bool false, undef, undef, .bool false, .bool false, .bool false, .pointer (some ⟨D22, 0, none⟩), .bool false, .int .i64 (i : Int), .int .i64 n, .bool false, .bool false, .bool false, u61, undef, undef, undef, undef, undef, undef, undef, undef, undef, undef, undef]) rfl ?_
              refine hK88 _ _ ?_
              refine c_false rfl ?_
              refine wp_skip ?_
              refine hK50 _ _ ?_
              refine c_region (fun ops92 hops91 => ?_)
              clear hops91
              refine p_run (l' := _) _ (x_arith (k := .i64) (m := (i : Int)) (n := 1) .add (((i + 1 : Nat) : Int)) rfl rfl rfl (show IntKind.i64.wrap ((i : Int) + 1) = ((i + 1 : Nat) : Int) from ((wr64 (by omega)).trans (by omega))) rfl) rfl ?_
              refine p_run (l' := _) _ (x_move (.int .i64 ((i + 1 : Nat) : Int)) rfl rfl) rfl ?_
              refine wpList_nil ?_
              refine fr_at (l' := [.int .i64 n, .slice (some ad) l0.length c0, undef, undef, u4, .pointer (some ⟨D22, 0, none⟩), .int .i64 (i : Int), .bool sb, .int .i64 (S.writeE ((i : Int) % 4)), .bool true, .bool false, .int .i64 n, .bool false, .bool false, .slice (some ad) l0.length c0, .int .i64 (l0.length : Int), .bool false, .bool false, .pointer (some ⟨D22, 0, none⟩), .pointer (some ⟨D22, 0, none⟩), .int .i64 n, .tuple [].toArray, .slice (some ad) l0.length c0, .int .i64 (l0.length : Int), .int .i64 ((i + 1 : Nat) : Int), .bool (decide ((i : Int) < (l0.length : Int))), .int .i64 (i : Int), .pointer (some ((ad).add (i * 1))), .bool sb, .bool sb, u30, u31, .pointer (some ⟨D22, 0, none⟩), .int .i64 (i : Int), .int .i64 ((i : Int) % 4), .int .i64 (i : Int), .int .u8 (IntKind.u8.wrap (i : Int)), .agg ((nums .u8 (rep (IntKind.u8.wrap (i : Int))))).toArray, .int .i64 (S.writeE ((i : Int) % 4)), .int .i64 (S.writeE ((i : Int) % 4)), .bool true, .int .i64 (i : Int), .int .i64 n, .bool true, .bool false, .bool false, .int .i64 (S.writeE ((i : Int) % 4)), .bool false, .bool false, undef, undef, .bool false, .bool false, .bool false, .pointer (some ⟨D22, 0, none⟩), .bool false, .int .i64 (i : Int), .int .i64 n, .bool false, .bool false, .bool false, .int .i64 ((i + 1 : Nat) : Int), undef, undef, undef, undef, undef, undef, undef, undef, undef, undef, undef]) rfl ?_
              refine hJ40 (i + 1, (S.write ((i : Int) % 4) (rep (IntKind.u8.wrap (i : Int)))), v84) _ _ ?_ ?_
              · show l0.length - (i + 1) < l0.length - i; omega
              · exact ⟨_, _, _, _, _, _, _, _, _, _, _, _, _, _, _, _, _, _, _, _, _, _, _, _, _, _, _, _, _, _, _, _, _, _, _, _, _, _, _, _, _, rfl, ((((HS.front 3 rfl).front 3 rfl).front 3 rfl).front 3 rfl), ⟨cut_write hI hn hi4 _, by omega⟩⟩
            · skip
              have hae : S.actE = 42 := by rw [actE_eq, cut_acts hI hn, decide_eq_false hin, if_neg (by decide)]
              have hw2 := (cut_write hI hn hi4 (IntKind.u8.wrap (i : Int))).2.2.2
              have hs2 := (cut_sync hI hn).2.2.2
              rw [decide_eq_true (by omega)] at hw2 hs2
              refine c_region (fun ops94 hops93 => ?_)
              refine p_run (l' := _) _ (x_move (.int .i64 (S.writeE ((i : Int) % 4))) rfl rfl) rfl ?_
              refine p_run (l' := _) _ (x_cmp (k := .i64) (m := (S.writeE ((i : Int) % 4))) (n := 0) .eql false rfl rfl rfl (by unfold cmpB; (try rw [cut_writeE hI hi4]); rw [hae]; rfl) rfl) rfl ?_
              refine p_run (l' := _) _ (x_move (.int .i64 (i : Int)) rfl rfl) rfl ?_
              refine p_run (l' := [.int .i64 n, .slice (some ad) l0.length c0, undef, undef, u4, .pointer (some ⟨D22, 0, none⟩), .int .i64 (i : Int), .bool sb, .int .i64 (S.writeE ((i : Int) % 4)), .bool true, .bool false, .int .i64 n, .bool false, .bool false, .slice (some ad) l0.length c0, .int .i64 (l0.length : Int), .bool false, .bool false, .pointer (some ⟨D22, 0, none⟩), .pointer (some ⟨D22, 0, none⟩), .int .i64 n, .tuple [].toArray, .slice (some ad) l0.length c0, .int .i64 (l0.length : Int), .int .i64 (i : Int), .bool (decide ((i : Int) < (l0.length : Int))), .int .i64 (i : Int), .pointer (some ((ad).add (i * 1))), .bool sb, .bool sb, u30, u31, .pointer (some ⟨D22, 0, none⟩), .int .i64 (i : Int), .int .i64 ((i : Int) % 4), .int .i64 (i : Int), .int .u8 (IntKind.u8.wrap (i : Int)), .agg ((nums .u8 (rep (IntKind.u8.wrap (i : Int))))).toArray, .int .i64 (S.writeE ((i : Int) % 4)), .int .i64 (S.writeE ((i : Int) % 4)), .bool false, .int .i64 (i : Int), .int .i64 n, u43, u44, u45, u46, u47, u48, u49, u50, u51, u52, u53, u54, u55, u56, u57, u58, u59, u60, u61, undef, undef, undef, undef, undef, undef, undef, undef, undef, undef, undef]) _ (x_move (.int .i64 n) rfl rfl) rfl ?_
              refine p_run (l' := _) _ (x_cmp (k := .i64) (m := (i : Int)) (n := n) .lss false rfl rfl rfl (decide_eq_false hin) rfl) rfl ?_
              refine p_run (l' := _) _ (x_boolcmp .neq false false false rfl rfl rfl Try.underlying4 rfl rfl) rfl ?_
              refine p_run (l' := _) _ (x_move (.bool false) rfl rfl) rfl ?_
              refine p_on rfl (by rw [hops93]; rfl) ?_
              refine p_run (l' := [.int .i64 n, .slice (some ad) l0.length c0, undef, undef, u4, .pointer (some ⟨D22, 0, none⟩), .int .i64 (i : Int), .bool sb, .int .i64 (S.writeE ((i : Int) % 4)), .bool true, .bool false, .int .i64 n, .bool false, .bool false, .slice (some ad) l0.length c0, .int .i64 (l0.length : Int), .bool false, .bool false, .pointer (some ⟨D22, 0, none⟩), .pointer (some ⟨D22, 0, none⟩), .int .i64 n, .tuple [].toArray, .slice (some ad) l0.length c0, .int .i64 (l0.length : Int), .int .i64 (i : Int), .bool (decide ((i : Int) < (l0.length : Int))), .int .i64 (i : Int), .pointer (some ((ad).add (i * 1))), .bool sb, .bool sb, u30, u31, .pointer (some ⟨D22, 0, none⟩), .int .i64 (i : Int), .int .i64 ((i : Int) % 4), .int .i64 (i : Int), .int .u8 (IntKind.u8.wrap (i : Int)), .agg ((nums .u8 (rep (IntKind.u8.wrap (i : Int))))).toArray, .int .i64 (S.writeE ((i : Int) % 4)), .int .i64 (S.writeE ((i : Int) % 4)), .bool false, .int .i64 (i : Int), .int .i64 n, .bool false, .bool false, .bool false, .int .i64 (S.writeE ((i : Int) % 4)), u47, u48, u49, u50, u51, u52, u53, u54, u55, u56, u57, u58, u59, u60, u61, undef, undef, undef, undef, undef, undef, undef, undef, undef, undef, undef]) _ (x_move (.int .i64 (S.writeE ((i : Int) % 4))) rfl rfl) rfl ?_
              refine p_on rfl (by rw [hops93]; rfl) ?_
              refine p_run (l' := _) _ (x_cmp (k := .i64) (m := (S.writeE ((i : Int) % 4))) (n := 0) .neq true rfl rfl rfl (by unfold cmpB; (try rw [cut_writeE hI hi4]); rw [hae]; rfl) rfl) rfl ?_
              refine p_on rfl (by rw [hops93]; rfl) ?_
              refine p_run (l' := _) _ (x_move (.bool true) rfl rfl) rfl ?_
              refine p_on rfl (by rw [hops93]; rfl) ?_
              refine p_run (l' := _) _ (x_move (.int .i64 (S.writeE ((i : Int) % 4))) rfl rfl) rfl ?_
              refine p_on rfl (by rw [hops93]; rfl) ?_
              refine p_run (l' := [.int .i64 n, .slice (some ad) l0.length c0, undef, undef, u4, .pointer (some ⟨D22, 0, none⟩), .int .i64 (i : Int), .bool sb, .int .i64 (S.writeE ((i : Int) % 4)), .bool true, .bool false, .int .i64 n, .bool false, .bool false, .slice (some ad) l0.length c0, .int .i64 (l0.length : Int), .bool false, .bool false, .pointer (some ⟨D22, 0, none⟩), .pointer (some ⟨D22, 0, none⟩), .int .i64 n, .tuple [].toArray, .slice (some ad) l0.length c0, .int .i64 (l0.length : Int), .int .i64 (i : Int), .bool (decide ((i : Int) < (l0.length : Int))), .int .i64 (i : Int), .pointer (some ((ad).add (i * 1))), .bool sb, .bool sb, u30, u31, .pointer (some ⟨D22, 0, none⟩), .int .i64 (i : Int), .int .i64 ((i : Int) % 4), .int .i64 (i : Int), .int .u8 (IntKind.u8.wrap (i : Int)), .agg ((nums .u8 (rep (IntKind.u8.wrap (i : Int))))).toArray, .int .i64 (S.writeE ((i : Int) % 4)), .int .i64 (S.writeE ((i : Int) % 4)), .bool false, .int .i64 (i : Int), .int .i64 n, .bool false, .bool false, .bool false, .int .i64 (S.writeE ((i : Int) % 4)), .bool true, .bool true, .int .i64 (S.writeE ((i : Int) % 4)), .bool false, u51, u52, u53, u54, u55, u56, u57, u58, u59, u60, u61, undef, undef, undef, undef, undef, undef, undef, undef, undef, undef, undef]) _ (x_cmp (k := .i64) (m := (S.writeE ((i : Int) % 4))) (n := 42) .neq false rfl rfl rfl (by unfold cmpB; (try rw [cut_writeE hI hi4]); rw [hae]; rfl) rfl) rfl ?_
              refine p_on rfl (by rw [hops93]; rfl) ?_
              refine p_run (l' := _) _ (x_pick true (.bool false) (.bool false) (.bool false) rfl rfl rfl rfl rfl) rfl ?_
              refine p_run (l' := _) _ (x_pick false (.bool true) (.bool false) (.bool false) rfl rfl rfl rfl rfl) rfl ?_
              refine p_run (l' := _) _ (x_move (.bool false) rfl rfl) rfl ?_
              refine p_on rfl (by rw [hops93]; rfl) ?_
              refine p_run (l' := [.int .i64 n, .slice (some ad) l0.length c0, undef, undef, u4, .pointer (some ⟨D22, 0, none⟩), .int .i64 (i : Int), .bool sb, .int .i64 (S.writeE ((i : Int) % 4)), .bool true, .bool false, .int .i64 n, .bool false, .bool false, .slice (some ad) l0.length c0, .int .i64 (l0.length : Int), .bool false, .bool false, .pointer (some ⟨D22, 0, none⟩), .pointer (some ⟨D22, 0, none⟩), .int .i64 n, .tuple [].toArray, .slice (some ad) l0.length c0, .int .i64 (l0.length : Int), .int .i64 (i : Int), .bool (decide ((i : Int) < (l0.length : Int))), .int .i64 (i : Int), .pointer (some ((ad).add (i * 1))), .bool sb, .bool sb, u30, u31, .pointer (some ⟨D22, 0, none⟩), .int .i64 (i : Int), .int .i64 ((i : Int) % 4), .int .i64 (i : Int), .int .u8 (IntKind.u8.wrap (i : Int)), .agg ((nums .u8 (rep (IntKind.u8.wrap (i : Int))))).toArray, .int .i64 (S.writeE ((i : Int) % 4)), .int .i64 (S.writeE ((i : Int) % 4)), .bool false, .int .i64 (i : Int), .int .i64 n, .bool false, .bool false, .bool false, .int .i64 (S.writeE ((i : Int) % 4)), .bool true, .bool true, .int .i64 (S.writeE ((i : Int) % 4)), .bool false, .bool false, .bool false, .bool false, .pointer (some ⟨D22, 0, none⟩), u55, u56, u57, u58, u59, u60, u61, undef, undef, undef, undef, undef, undef, undef, undef, undef, undef, undef]) _ (x_move (.pointer (some ⟨D22, 0, none⟩)) rfl rfl) rfl ?_
              refine p_on rfl (by rw [hops93]; rfl) ?_
              refine w_call [.pointer (some ⟨D22, 0, none⟩)] Try.func15 (by kernel_rfl) (by rfl) rfl ?_
              replace HS := ((((HS.front 3 rfl).front 3 rfl).front 3 rfl).front 3 rfl)
              refine (down_any HS).mono ?_
              rintro e w' ⟨he_, rfl⟩
              rw [show (S.write ((i : Int) % 4) (rep (IntKind.u8.wrap (i : Int)))).down = true from (by first | exact hw2 | exact hs2)] at he_
              subst he_
              refine ⟨_, rfl, ?_⟩
              refine p_on rfl (by rw [hops93]; rfl) ?_
              refine p_run (l' := _) _ (x_move (.int .i64 (i : Int)) rfl rfl) rfl ?_
              refine p_on rfl (by rw [hops93]; rfl) ?_
              refine p_run (l' := _) _ (x_move (.int .i64 n) rfl rfl) rfl ?_
              refine p_on rfl (by rw [hops93]; rfl) ?_
              refine p_run (l' := [.int .i64 n, .slice (some ad) l0.length c0, undef, undef, u4, .pointer (some ⟨D22, 0, none⟩), .int .i64 (i : Int), .bool sb, .int .i64 (S.writeE ((i : Int) % 4)), .bool true, .bool false, .int .i64 n, .bool false, .bool false, .slice (some ad) l0.length c0, .int .i64 (l0.length : Int), .bool false, .bool false, .pointer (some ⟨D22, 0, none⟩), .pointer (some ⟨D22, 0, none⟩), .int .i64 n, .tuple [].toArray, .slice (some ad) l0.length c0, .int .i64 (l0.length : Int), .int .i64 (i : Int), .bool (decide ((i : Int) < (l0.length : Int))), .int .i64 (i : Int), .pointer (some ((ad).add (i * 1))), .bool sb, .bool sb, u30, u31, .pointer (some ⟨D22, 0, none⟩), .int .i64 (i : Int), .int .i64 ((i : Int) % 4), .int .i64 (i : Int), .int .u8 (IntKind.u8.wrap (i : Int)), .agg ((nums .u8 (rep (IntKind.u8.wrap (i : Int))))).toArray, .int .i64 (S.writeE ((i : Int) % 4)), .int .i64 (S.writeE ((i : Int) % 4)), .bool false, .int .i64 (i : Int), .int .i64 n, .bool false, .bool false, .bool false, .int .i64 (S.writeE ((i : Int) % 4)), .bool true, .bool true, .int .i64 (S.writeE ((i : Int) % 4)), .bool false, .bool false, .bool false, .bool false, .pointer (some ⟨D22, 0, none⟩), .bool true, .int .i64 (i : Int), .int .i64 n, .bool true, u59, u60, u61, undef, undef, undef, undef, undef, undef, undef, undef, undef, undef, undef]) _ (x_cmp (k := .i64) (m := (i : Int)) (n := n) .geq true rfl rfl rfl (show decide _ = _ from decide_eq_true (by omega)) rfl) rfl ?_
              refine p_on rfl (by rw [hops93]; rfl) ?_
              refine p_run (l' := _) _ (x_boolcmp .neq true true false rfl rfl rfl Try.underlying4 rfl rfl) rfl ?_
              refine p_run (l' := _) _ (x_pick false (.bool true) (.bool false) (.bool false) rfl rfl rfl rfl rfl) rfl ?_
              clear hops93
              refine wpList_nil ?_
              refine fr_at (l' := [.int .i64 n, .slice (some ad) l0.length c0, undef, undef, u4, .pointer (some ⟨D22, 0, none⟩), .int .i64 (i : Int), .bool sb, .int .i64 (S.writeE ((i : Int) % 4)), .bool true, .bool false, .int .i64 n, .bool false, .bool false, .slice (some ad) l0.length c0, .int .i64 (l0.length : Int), .bool false, .bool false, .pointer (some ⟨D22, 0, none⟩), .pointer (some ⟨D22, 0, none⟩), .int .i64 n, .tuple [].toArray, .slice (some ad) l0.length c0, .int .i64 (l0.length : Int), .int .i64 (i : Int), .bool (decide ((i : Int) < (l0.length : Int))), .int .i64 (i : Int), .pointer (some ((ad).add (i * 1))), .bool sb, .bool sb, u30, u31, .pointer (some ⟨D22, 0, none⟩), .int .i64 (i : Int), .int .i64 ((i : Int) % 4), .int .i64 (i : Int), .int .u8 (IntKind.u8.wrap (i : Int)), .agg ((nums .u8 (rep (IntKind.u8.wrap (i : Int))))).toArray, .int .i64 (S.writeE ((i : Int) % 4)), .int .i64 (S.writeE ((i : Int) % 4)), .bool false, .int .i64 (i : Int), .int .i64 n, .bool false, .bool false, .bool false, .int .i64 (S.writeE ((i : Int) % 4)), .bool true, .bool true, .int .i64 (S.writeE ((i : Int) % 4)), .bool false, .bool false, .bool false, .bool false, .pointer (some ⟨D22, 0, none⟩), .bool true, .int .i64 (i : Int), .int .i64 n, .bool true, .bool false, .bool false, u61, undef, undef, undef, undef, undef, undef, undef, undef, undef, undef, undef]) rfl ?_
              refine hK88 _ _ ?_
              refine c_false rfl ?_
              refine wp_skip ?_
              refine hK50 _ _ ?_
              refine c_region (fun ops96 hops95 => ?_)
              clear hops95
              refine p_run (l' := _) _ (x_arith (k := .i64) (m := (i : Int)) (n := 1) .add (((i + 1 : Nat) : Int)) rfl rfl rfl (show IntKind.i64.wrap ((i : Int) + 1) = ((i + 1 : Nat) : Int) from ((wr64 (by omega)).trans (by omega))) rfl) rfl ?_
              refine p_run (l' := _) _ (x_move (.int .i64 ((i + 1 : Nat) : Int)) rfl rfl) rfl ?_
              refine wpList_nil ?_
              refine fr_at (l' := [.int .i64 n, .slice (some ad) l0.length c0, undef, undef, u4, .pointer (some ⟨D22, 0, none⟩), .int .i64 (i : Int), .bool sb, .int .i64 (S.writeE ((i : Int) % 4)), .bool true, .bool false, .int .i64 n, .bool false, .bool false, .slice (some ad) l0.length c0, .int .i64 (l0.length : Int), .bool false, .bool false, .pointer (some ⟨D22, 0, none⟩), .pointer (some ⟨D22, 0, none⟩), .int .i64 n, .tuple [].toArray, .slice (some ad) l0.length c0, .int .i64 (l0.length : Int), .int .i64 ((i + 1 : Nat) : Int), .bool (decide ((i : Int) < (l0.length : Int))), .int .i64 (i : Int), .pointer (some ((ad).add (i * 1))), .bool sb, .bool sb, u30, u31, .pointer (some ⟨D22, 0, none⟩), .int .i64 (i : Int), .int .i64 ((i : Int) % 4), .int .i64 (i : Int), .int .u8 (IntKind.u8.wrap (i : Int)), .agg ((nums .u8 (rep (IntKind.u8.wrap (i : Int))))).toArray, .int .i64 (S.writeE ((i : Int) % 4)), .int .i64 (S.writeE ((i : Int) % 4)), .bool false, .int .i64 (i : Int), .int .i64 n, .bool false, .bool false, .bool false, .int .i64 (S.writeE ((i : Int) % 4)), .bool true, .bool true, .int .i64 (S.writeE ((i : Int) % 4)), .bool false, .bool false, .bool false, .bool false, .pointer (some ⟨D22, 0, none⟩), .bool true, .int .i64 (i : Int), .int .i64 n, .bool true, .bool false, .bool false, .int .i64 ((i + 1 : Nat) : Int), undef, undef, undef, undef, undef, undef, undef, undef, undef, undef, undef]) rfl ?_
              refine hJ40 (i + 1, (S.write ((i : Int) % 4) (rep (IntKind.u8.wrap (i : Int)))), v84) _ _ ?_ ?_
              · show l0.length - (i + 1) < l0.length - i; omega
              · exact ⟨_, _, _, _, _, _, _, _, _, _, _, _, _, _, _, _, _, _, _, _, _, _, _, _, _, _, _, _, _, _, _, _, _, _, _, _, _, _, _, _, _, rfl, ((((HS.front 3 rfl).front 3 rfl).front 3 rfl).front 3 rfl), ⟨cut_write hI hn hi4 _, by omega⟩⟩
        · have hlt : ¬ i < l0.length := by have := of_decide_eq_false hc48; omega
          refine wp_exit ?_
          refine hK34 _ _ ?_
          refine wp_seq_k (fun K97 hK98 => ?_)
          refine c_region (fun ops100 hops99 => ?_)
          clear hops99
          refine p_run (l' := _) _ (x_move (.pointer (some ⟨D22, 0, none⟩)) rfl rfl) rfl ?_
          refine w_call [.pointer (some ⟨D22, 0, none⟩), .slice none 0 0] Try.func16 (by kernel_rfl) (by rfl) rfl ?_
          replace HS := ((((HS.front 3 rfl).front 3 rfl).front 3 rfl).front 3 rfl)
          refine (crash_any HS hI.1.ok (by have := hI.1.pn; omega) [] (fun _ h => by cases h) (fun w X _ => C_nil w _)).mono ?_
          clear HS
          rintro e w102 ⟨v101, rfl, HS⟩
          have hgd103 : Dk.good (S.crash []) (i) := good_crash hI.1 _
          refine ⟨_, rfl, ?_⟩
          refine wpList_nil ?_
          refine fr_at (l' := [.int .i64 n, .slice A0 l0.length c0, undef, undef, u4, .pointer (some ⟨D22, 0, none⟩), u6, u7, u8, .bool true, .bool false, .int .i64 n, .bool false, .bool false, .slice A0 l0.length c0, .int .i64 (l0.length : Int), .bool false, .bool false, .pointer (some ⟨D22, 0, none⟩), .pointer (some ⟨D22, 0, none⟩), .int .i64 n, .tuple [].toArray, .slice A0 l0.length c0, .int .i64 (l0.length : Int), .int .i64 (i : Int), .bool (decide ((i : Int) < (l0.length : Int))), u26, u27, u28, u29, u30, u31, u32, u33, u34, u35, u36, u37, u38, u39, u40, u41, u42, u43, u44, u45, u46, u47, u48, u49, u50, u51, u52, u53, u54, u55, u56, u57, u58, u59, u60, u61, .pointer (some ⟨D22, 0, none⟩), .tuple [].toArray, undef, undef, undef, undef, undef, undef, undef, undef, undef]) rfl ?_
          refine hK98 _ _ ?_
          refine wp_seq_k (fun K104 hK105 => ?_)
          refine c_region (fun ops107 hops106 => ?_)
          refine p_run (l' := _) _ (x_move (.pointer (some ⟨D22, 0, none⟩)) rfl rfl) rfl ?_
          refine w_call [.pointer (some ⟨D22, 0, none⟩)] Try.func12 (by kernel_rfl) (by rfl) rfl ?_
          replace HS := ((((HS.front 3 rfl).front 3 rfl).front 3 rfl).front 3 rfl)
          refine (sync_any HS hgd103.ok (by have := hgd103.pn; omega)).mono ?_
          clear HS
          rintro e w109 ⟨v108, rfl, HS⟩
          have hgd110 : Dk.good ((S.crash []).sync) (i) := good_sync hgd103
          refine ⟨_, rfl, ?_⟩
          refine p_run (l' := _) _ (x_cmp (k := .i64) (m := (S.crash []).actE) (n := 0) .eql true rfl rfl rfl (by unfold cmpB; rw [fre_actE (S := S.crash []) ⟨rfl, rfl⟩]; rfl) rfl) rfl ?_
          refine p_run (l' := [.int .i64 n, .slice A0 l0.length c0, undef, undef, u4, .pointer (some ⟨D22, 0, none⟩), u6, u7, u8, .bool true, .bool false, .int .i64 n, .bool false, .bool false, .slice A0 l0.length c0, .int .i64 (l0.length : Int), .bool false, .bool false, .pointer (some ⟨D22, 0, none⟩), .pointer (some ⟨D22, 0, none⟩), .int .i64 n, .tuple [].toArray, .slice A0 l0.length c0, .int .i64 (l0.length : Int), .int .i64 (i : Int), .bool (decide ((i : Int) < (l0.length : Int))), u26, u27, u28, u29, u30, u31, u32, u33, u34, u35, u36, u37, u38, u39, u40, u41, u42, u43, u44, u45, u46, u47, u48, u49, u50, u51, u52, u53, u54, u55, u56, u57, u58, u59, u60, u61, .pointer (some ⟨D22, 0, none⟩), .tuple [].toArray, .pointer (some ⟨D22, 0, none⟩), .int .i64 ((S.crash []).actE), .bool true, .bool true, undef, undef, undef, undef, undef]) _ (x_move (.bool true) rfl rfl) rfl ?_
          refine p_on rfl (by rw [hops106]; rfl) ?_
          refine p_run (l' := _) _ (x_move (.pointer (some ⟨D22, 0, none⟩)) rfl rfl) rfl ?_
          refine p_on rfl (by rw [hops106]; rfl) ?_
          refine p_run (l' := _) _ (x_build ((nums .u8 zpg)) rfl (by kernel_rfl)) rfl ?_
          refine p_on rfl (by rw [hops106]; rfl) ?_
          refine w_call [.pointer (some ⟨D22, 0, none⟩), .int .i64 0, .agg ((nums .u8 zpg)).toArray] Try.func13 (by kernel_rfl) (by rfl) rfl ?_
          replace HS := ((((HS.front 3 rfl).front 3 rfl).front 3 rfl).front 3 rfl)
          refine (write_any HS hgd110.lft (by have := hgd110.pn; omega) 0 zpg zlen).mono ?_
          clear HS
          rintro e w112 ⟨v111, rfl, HS⟩
          have hgd113 : Dk.good (((S.crash []).sync).write 0 zpg) (i + 1) := good_write hgd110 0 zlen
          refine ⟨_, rfl, ?_⟩
          refine p_on rfl (by rw [hops106]; rfl) ?_
          refine p_run (l' := [.int .i64 n, .slice A0 l0.length c0, undef, undef, u4, .pointer (some ⟨D22, 0, none⟩), u6, u7, u8, .bool true, .bool false, .int .i64 n, .bool false, .bool false, .slice A0 l0.length c0, .int .i64 (l0.length : Int), .bool false, .bool false, .pointer (some ⟨D22, 0, none⟩), .pointer (some ⟨D22, 0, none⟩), .int .i64 n, .tuple [].toArray, .slice A0 l0.length c0, .int .i64 (l0.length : Int), .int .i64 (i : Int), .bool (decide ((i : Int) < (l0.length : Int))), u26, u27, u28, u29, u30, u31, u32, u33, u34, u35, u36, u37, u38, u39, u40, u41, u42, u43, u44, u45, u46, u47, u48, u49, u50, u51, u52, u53, u54, u55, u56, u57, u58, u59, u60, u61, .pointer (some ⟨D22, 0, none⟩), .tuple [].toArray, .pointer (some ⟨D22, 0, none⟩), .int .i64 ((S.crash []).actE), .bool true, .bool true, .pointer (some ⟨D22, 0, none⟩), .agg ((nums .u8 zpg)).toArray, .int .i64 (((S.crash []).sync).writeE 0), .bool true, undef]) _ (x_cmp (k := .i64) (m := (((S.crash []).sync).writeE 0)) (n := 0) .eql true rfl rfl rfl (by unfold cmpB; rw [fre_sync (S := S.crash []) ⟨rfl, rfl⟩, fre_writeE ⟨rfl, rfl⟩ (there_end hI)]; rfl) rfl) rfl ?_
          refine p_run (l' := _) _ (x_pick true (.bool true) (.bool false) (.bool true) rfl rfl rfl rfl rfl) rfl ?_
          refine p_run (l' := _) _ (x_assign (.bool true) rfl rfl) rfl ?_
          clear hops106
          refine wpList_nil ?_
          refine fr_at (l' := [.int .i64 n, .slice A0 l0.length c0, undef, undef, .bool true, .pointer (some ⟨D22, 0, none⟩), u6, u7, u8, .bool true, .bool false, .int .i64 n, .bool false, .bool false, .slice A0 l0.length c0, .int .i64 (l0.length : Int), .bool false, .bool false, .pointer (some ⟨D22, 0, none⟩), .pointer (some ⟨D22, 0, none⟩), .int .i64 n, .tuple [].toArray, .slice A0 l0.length c0, .int .i64 (l0.length : Int), .int .i64 (i : Int), .bool (decide ((i : Int) < (l0.length : Int))), u26, u27, u28, u29, u30, u31, u32, u33, u34, u35, u36, u37, u38, u39, u40, u41, u42, u43, u44, u45, u46, u47, u48, u49, u50, u51, u52, u53, u54, u55, u56, u57, u58, u59, u60, u61, .pointer (some ⟨D22, 0, none⟩), .tuple [].toArray, .pointer (some ⟨D22, 0, none⟩), .int .i64 ((S.crash []).actE), .bool true, .bool true, .pointer (some ⟨D22, 0, none⟩), .agg ((nums .u8 zpg)).toArray, .int .i64 (((S.crash []).sync).writeE 0), .bool true, .bool true]) rfl ?_
          refine hK105 _ _ ?_
          refine wp_ret ?_
          try simp only [Exit.inBlock, Exit.then]
          refine c_ret (.bool true) (r_tmp rfl rfl) ?_
          exact ⟨rfl, HS.belowOf⟩
end Go.Proofs.Ytjholgfaipfmbaa
