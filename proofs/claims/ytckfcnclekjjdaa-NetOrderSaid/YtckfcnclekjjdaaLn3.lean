/- NetOrder. -/
import Derived.Test.YtckfcnclekjjdaaLn1
import Derived.Test.YtckfcnclekjjdaaArgsE
set_option linter.unusedVariables false
set_option linter.unusedSimpArgs false
namespace Go.Proofs.Ytckfcnclekjjdaa
open Go.RowKit Go.Proofs.YtckfcnclekjjdaaW.PrintWords Go.Proofs.YtckfcnclekjjdaaW.PrintLast Crc
section
variable {fs : List Fr_} {l : List (List UInt8)} {tt : Int} {i : Nat} {b : List UInt8}
theorem toN_inv {a : Int} (h : (toN fs)[i]? = some (a, b)) : ∃ fv, fs[i]? = some (a, fv, b) := by
  unfold toN at h
  rw [List.getElem?_map] at h
  obtain ⟨f, hf, he⟩ := Option.map_eq_some_iff.1 h
  obtain ⟨a', fv, b'⟩ := f
  injection he with h1 h2
  subst h1 h2
  exact ⟨fv, hf⟩
def onW (tt : Int) (l : List (List UInt8)) : List (Int × List UInt8) := l.map (fun b => (tt, b))
theorem on_len (h : toN fs = onW tt l) : fs.length = l.length := by rw [← toN_length, h]; exact List.length_map _
theorem on_send (h : toN fs = onW tt ((l.take i).take 64)) (hb : l[i]? = some b) (ht : 0 ≤ tt ∧ tt < 2) (fv : Value) : toN (sendF fs tt fv b) = onW tt ((l.take (i + 1)).take 64) := by
  have hi := (List.getElem?_eq_some_iff.1 hb).1
  have hb' : l[i] = b := (List.getElem?_eq_some_iff.1 hb).2
  rw [toN_send, h]
  have hl : ((l.take i).take 64).length = min 64 i := by rw [List.length_take, List.length_take]; omega
  unfold nSend onW
  rw [List.length_map, hl]
  by_cases c : i < 64
  · rw [if_pos ⟨ht.1, ht.2, by omega⟩, List.take_of_length_le (l := l.take i) (by rw [List.length_take]; omega), List.take_of_length_le (l := l.take (i + 1)) (by rw [List.length_take]; omega), List.take_succ_eq_append_getElem hi, List.map_append, hb']
    rfl
  · rw [if_neg (by omega), List.take_take, List.take_take, Nat.min_eq_left (by omega), Nat.min_eq_left (by omega)]
theorem on_head (h : toN fs = onW tt ((l.take 64).drop i)) (hb : l[i]? = some b) (hi : i < 64) : ∃ fv, fs[0]? = some (tt, fv, b) := by
  refine toN_inv ?_
  rw [h]
  unfold onW
  rw [List.getElem?_map, List.getElem?_drop, Nat.add_zero, List.getElem?_take, if_pos hi, hb]
  rfl
theorem on_take (h : toN fs = onW tt ((l.take 64).drop i)) : toN (fs.eraseIdx 0) = onW tt ((l.take 64).drop (i + 1)) := by
  rw [toN_erase, h]
  unfold onW
  rw [erase_map, List.eraseIdx_zero, List.tail_drop]
theorem on_none (h : toN fs = onW tt ((l.take 64).drop i)) (hi : 64 ≤ i ∨ l.length ≤ i) : fs.length = 0 := by
  rw [on_len h, List.length_drop, List.length_take]
  omega
theorem th_none (h : fs.length = 0) : nTh fs 0 = false := decide_eq_false (by omega)
end

theorem on_all {l : List (List UInt8)} {i : Nat} {b : List UInt8} (h : ∀ b ∈ l.take i, b.length ≤ 200) (hb : l[i]? = some b) (h2 : b.length ≤ 200) : ∀ b ∈ l.take (i + 1), b.length ≤ 200 := by
  have hi := (List.getElem?_eq_some_iff.1 hb).1
  intro x hx
  rw [List.take_succ_eq_append_getElem hi] at hx
  rcases List.mem_append.1 hx with hx | hx
  · exact h x hx
  · rw [List.mem_singleton.1 hx, (List.getElem?_eq_some_iff.1 hb).2]; exact h2

set_option maxRecDepth 10000 in
set_option maxHeartbeats 2000000 in
theorem order_law (w : World) (A0 : Option Addr) (c0 : Nat) (l0 : List (List UInt8)) (hr0 : kBN.C w A0 l0.length l0) (tt : Int) : Calls Try.prog 9 #[.slice A0 l0.length c0, .int .i64 tt] w fun e w' => e = .returned (.bool true) ∧ Below w.heap.size w w' := by
  have HS := St.empty w
  · skip
    by_cases h0 : (l0.length : Int) > 100
    · skip
      have h0d := decide_eq_true h0
      refine c_enter Try.func9 rfl 74 rfl [.slice A0 l0.length c0, .int .i64 tt, undef, undef, undef, undef, undef, undef, undef, undef, undef, undef, undef, undef, undef, undef, undef, undef, undef, undef, undef, undef, undef, undef, undef, undef, undef, undef, undef, undef, undef, undef, undef, undef, undef, undef, undef, undef, undef, undef, undef, undef, undef, undef, undef, undef, undef, undef, undef, undef, undef, undef, undef, undef, undef, undef, undef, undef, undef, undef, undef, undef, undef, undef, undef, undef, undef, undef, undef, undef, undef, undef, undef, undef] rfl ?_
      refine wp_seq_k (fun K1 hK2 => ?_)
      refine c_region (fun ops4 hops3 => ?_)
      clear hops3
      refine p_run (l' := _) _ (x_assign (.bool false) rfl rfl) rfl ?_
      refine wpList_nil ?_
      refine fr_at (l' := [.slice A0 l0.length c0, .int .i64 tt, undef, undef, .bool false, undef, undef, undef, undef, undef, undef, undef, undef, undef, undef, undef, undef, undef, undef, undef, undef, undef, undef, undef, undef, undef, undef, undef, undef, undef, undef, undef, undef, undef, undef, undef, undef, undef, undef, undef, undef, undef, undef, undef, undef, undef, undef, undef, undef, undef, undef, undef, undef, undef, undef, undef, undef, undef, undef, undef, undef, undef, undef, undef, undef, undef, undef, undef, undef, undef, undef, undef, undef, undef]) rfl ?_
      refine hK2 _ _ ?_
      refine wp_seq_k (fun K5 hK6 => ?_)
      refine wp_seq_k (fun K7 hK8 => ?_)
      refine c_region (fun ops10 hops9 => ?_)
      clear hops9
      refine w_call [] Try.func21 (by kernel_rfl) (by rfl) rfl ?_
      refine (nAlive_any HS).mono ?_
      clear HS
      rintro e w11 ⟨rfl, HS⟩
      refine ⟨_, rfl, ?_⟩
      refine p_run (l' := _) _ (x_not true rfl rfl) rfl ?_
      refine wpList_nil ?_
      refine fr_at (l' := [.slice A0 l0.length c0, .int .i64 tt, undef, undef, .bool false, undef, undef, undef, undef, undef, undef, undef, .bool true, .bool false, undef, undef, undef, undef, undef, undef, undef, undef, undef, undef, undef, undef, undef, undef, undef, undef, undef, undef, undef, undef, undef, undef, undef, undef, undef, undef, undef, undef, undef, undef, undef, undef, undef, undef, undef, undef, undef, undef, undef, undef, undef, undef, undef, undef, undef, undef, undef, undef, undef, undef, undef, undef, undef, undef, undef, undef, undef, undef, undef, undef]) rfl ?_
      refine hK8 _ _ ?_
      refine c_false rfl ?_
      refine wp_skip ?_
      refine hK6 _ _ ?_
      refine wp_seq_k (fun K12 hK13 => ?_)
      refine wp_seq_k (fun K14 hK15 => ?_)
      refine c_region (fun ops17 hops16 => ?_)
      refine p_run (l' := _) _ (x_move (.slice A0 l0.length c0) rfl rfl) rfl ?_
      refine p_run (l' := _) _ (x_len rfl rfl Try.underlying22) rfl ?_
      refine p_run (l' := _) _ (x_cmp (k := .i64) (m := (l0.length : Int)) (n := 100) .gtr true rfl rfl rfl h0d rfl) rfl ?_
      refine p_run (l' := [.slice A0 l0.length c0, .int .i64 tt, undef, undef, .bool false, undef, undef, undef, undef, undef, undef, undef, .bool true, .bool false, .slice A0 l0.length c0, .int .i64 (l0.length : Int), .bool true, .bool true, undef, undef, undef, undef, undef, undef, undef, undef, undef, undef, undef, undef, undef, undef, undef, undef, undef, undef, undef, undef, undef, undef, undef, undef, undef, undef, undef, undef, undef, undef, undef, undef, undef, undef, undef, undef, undef, undef, undef, undef, undef, undef, undef, undef, undef, undef, undef, undef, undef, undef, undef, undef, undef, undef, undef, undef]) _ (x_move (.bool true) rfl rfl) rfl ?_
      refine p_off (l' := _) (by rw [hops16]; rfl) rfl ?_
      refine p_off (l' := _) (by rw [hops16]; rfl) rfl ?_
      refine p_run (l' := _) _ (x_pick true (.bool true) (undef) (.bool true) rfl rfl rfl rfl rfl) rfl ?_
      refine p_run (l' := [.slice A0 l0.length c0, .int .i64 tt, undef, undef, .bool false, undef, undef, undef, undef, undef, undef, undef, .bool true, .bool false, .slice A0 l0.length c0, .int .i64 (l0.length : Int), .bool true, .bool true, undef, undef, .bool true, .bool true, undef, undef, undef, undef, undef, undef, undef, undef, undef, undef, undef, undef, undef, undef, undef, undef, undef, undef, undef, undef, undef, undef, undef, undef, undef, undef, undef, undef, undef, undef, undef, undef, undef, undef, undef, undef, undef, undef, undef, undef, undef, undef, undef, undef, undef, undef, undef, undef, undef, undef, undef, undef]) _ (x_move (.bool true) rfl rfl) rfl ?_
      refine p_off (l' := _) (by rw [hops16]; rfl) rfl ?_
      refine p_off (l' := _) (by rw [hops16]; rfl) rfl ?_
      refine p_run (l' := _) _ (x_pick true (.bool true) (undef) (.bool true) rfl rfl rfl rfl rfl) rfl ?_
      clear hops16
      refine wpList_nil ?_
      refine fr_at (l' := [.slice A0 l0.length c0, .int .i64 tt, undef, undef, .bool false, undef, undef, undef, undef, undef, undef, undef, .bool true, .bool false, .slice A0 l0.length c0, .int .i64 (l0.length : Int), .bool true, .bool true, undef, undef, .bool true, .bool true, undef, undef, .bool true, undef, undef, undef, undef, undef, undef, undef, undef, undef, undef, undef, undef, undef, undef, undef, undef, undef, undef, undef, undef, undef, undef, undef, undef, undef, undef, undef, undef, undef, undef, undef, undef, undef, undef, undef, undef, undef, undef, undef, undef, undef, undef, undef, undef, undef, undef, undef, undef, undef]) rfl ?_
      refine hK15 _ _ ?_
      refine c_true rfl ?_
      refine wp_seq_k (fun K18 hK19 => ?_)
      refine c_region (fun ops21 hops20 => ?_)
      clear hops20
      refine p_run (l' := _) _ (x_assign (.bool true) rfl rfl) rfl ?_
      refine wpList_nil ?_
      refine fr_at (l' := [.slice A0 l0.length c0, .int .i64 tt, undef, undef, .bool true, undef, undef, undef, undef, undef, undef, undef, .bool true, .bool false, .slice A0 l0.length c0, .int .i64 (l0.length : Int), .bool true, .bool true, undef, undef, .bool true, .bool true, undef, undef, .bool true, undef, undef, undef, undef, undef, undef, undef, undef, undef, undef, undef, undef, undef, undef, undef, undef, undef, undef, undef, undef, undef, undef, undef, undef, undef, undef, undef, undef, undef, undef, undef, undef, undef, undef, undef, undef, undef, undef, undef, undef, undef, undef, undef, undef, undef, undef, undef, undef, undef]) rfl ?_
      refine hK19 _ _ ?_
      refine wp_ret ?_
      try simp only [Exit.inBlock, Exit.then]
      refine c_ret (.bool true) (r_tmp rfl rfl) ?_
      exact ⟨rfl, HS.belowOf⟩
    · skip
      have h0d := decide_eq_false h0
      by_cases h1 : tt < 0
      · skip
        have h1d := decide_eq_true h1
        refine c_enter Try.func9 rfl 74 rfl [.slice A0 l0.length c0, .int .i64 tt, undef, undef, undef, undef, undef, undef, undef, undef, undef, undef, undef, undef, undef, undef, undef, undef, undef, undef, undef, undef, undef, undef, undef, undef, undef, undef, undef, undef, undef, undef, undef, undef, undef, undef, undef, undef, undef, undef, undef, undef, undef, undef, undef, undef, undef, undef, undef, undef, undef, undef, undef, undef, undef, undef, undef, undef, undef, undef, undef, undef, undef, undef, undef, undef, undef, undef, undef, undef, undef, undef, undef, undef] rfl ?_
        refine wp_seq_k (fun K1 hK2 => ?_)
        refine c_region (fun ops4 hops3 => ?_)
        clear hops3
        refine p_run (l' := _) _ (x_assign (.bool false) rfl rfl) rfl ?_
        refine wpList_nil ?_
        refine fr_at (l' := [.slice A0 l0.length c0, .int .i64 tt, undef, undef, .bool false, undef, undef, undef, undef, undef, undef, undef, undef, undef, undef, undef, undef, undef, undef, undef, undef, undef, undef, undef, undef, undef, undef, undef, undef, undef, undef, undef, undef, undef, undef, undef, undef, undef, undef, undef, undef, undef, undef, undef, undef, undef, undef, undef, undef, undef, undef, undef, undef, undef, undef, undef, undef, undef, undef, undef, undef, undef, undef, undef, undef, undef, undef, undef, undef, undef, undef, undef, undef, undef]) rfl ?_
        refine hK2 _ _ ?_
        refine wp_seq_k (fun K5 hK6 => ?_)
        refine wp_seq_k (fun K7 hK8 => ?_)
        refine c_region (fun ops10 hops9 => ?_)
        clear hops9
        refine w_call [] Try.func21 (by kernel_rfl) (by rfl) rfl ?_
        refine (nAlive_any HS).mono ?_
        clear HS
        rintro e w11 ⟨rfl, HS⟩
        refine ⟨_, rfl, ?_⟩
        refine p_run (l' := _) _ (x_not true rfl rfl) rfl ?_
        refine wpList_nil ?_
        refine fr_at (l' := [.slice A0 l0.length c0, .int .i64 tt, undef, undef, .bool false, undef, undef, undef, undef, undef, undef, undef, .bool true, .bool false, undef, undef, undef, undef, undef, undef, undef, undef, undef, undef, undef, undef, undef, undef, undef, undef, undef, undef, undef, undef, undef, undef, undef, undef, undef, undef, undef, undef, undef, undef, undef, undef, undef, undef, undef, undef, undef, undef, undef, undef, undef, undef, undef, undef, undef, undef, undef, undef, undef, undef, undef, undef, undef, undef, undef, undef, undef, undef, undef, undef]) rfl ?_
        refine hK8 _ _ ?_
        refine c_false rfl ?_
        refine wp_skip ?_
        refine hK6 _ _ ?_
        refine wp_seq_k (fun K12 hK13 => ?_)
        refine wp_seq_k (fun K14 hK15 => ?_)
        refine c_region (fun ops17 hops16 => ?_)
        refine p_run (l' := _) _ (x_move (.slice A0 l0.length c0) rfl rfl) rfl ?_
        refine p_run (l' := _) _ (x_len rfl rfl Try.underlying22) rfl ?_
        refine p_run (l' := _) _ (x_cmp (k := .i64) (m := (l0.length : Int)) (n := 100) .gtr false rfl rfl rfl h0d rfl) rfl ?_
        refine p_run (l' := [.slice A0 l0.length c0, .int .i64 tt, undef, undef, .bool false, undef, undef, undef, undef, undef, undef, undef, .bool true, .bool false, .slice A0 l0.length c0, .int .i64 (l0.length : Int), .bool false, .bool false, undef, undef, undef, undef, undef, undef, undef, undef, undef, undef, undef, undef, undef, undef, undef, undef, undef, undef, undef, undef, undef, undef, undef, undef, undef, undef, undef, undef, undef, undef, undef, undef, undef, undef, undef, undef, undef, undef, undef, undef, undef, undef, undef, undef, undef, undef, undef, undef, undef, undef, undef, undef, undef, undef, undef, undef]) _ (x_move (.bool false) rfl rfl) rfl ?_
        refine p_on rfl (by rw [hops16]; rfl) ?_
        refine p_run (l' := _) _ (x_move (.int .i64 tt) rfl rfl) rfl ?_
        refine p_on rfl (by rw [hops16]; rfl) ?_
        refine p_run (l' := _) _ (x_cmp (k := .i64) (m := tt) (n := 0) .lss true rfl rfl rfl h1d rfl) rfl ?_
        refine p_run (l' := _) _ (x_pick false (.bool true) (.bool true) (.bool true) rfl rfl rfl rfl rfl) rfl ?_
        refine p_run (l' := [.slice A0 l0.length c0, .int .i64 tt, undef, undef, .bool false, undef, undef, undef, undef, undef, undef, undef, .bool true, .bool false, .slice A0 l0.length c0, .int .i64 (l0.length : Int), .bool false, .bool false, .int .i64 tt, .bool true, .bool true, .bool true, undef, undef, undef, undef, undef, undef, undef, undef, undef, undef, undef, undef, undef, undef, undef, undef, undef, undef, undef, undef, undef, undef, undef, undef, undef, undef, undef, undef, undef, undef, undef, undef, undef, undef, undef, undef, undef, undef, undef, undef, undef, undef, undef, undef, undef, undef, undef, undef, undef, undef, undef, undef]) _ (x_move (.bool true) rfl rfl) rfl ?_
        refine p_off (l' := _) (by rw [hops16]; rfl) rfl ?_
        refine p_off (l' := _) (by rw [hops16]; rfl) rfl ?_
        refine p_run (l' := _) _ (x_pick true (.bool true) (undef) (.bool true) rfl rfl rfl rfl rfl) rfl ?_
        clear hops16
        refine wpList_nil ?_
        refine fr_at (l' := [.slice A0 l0.length c0, .int .i64 tt, undef, undef, .bool false, undef, undef, undef, undef, undef, undef, undef, .bool true, .bool false, .slice A0 l0.length c0, .int .i64 (l0.length : Int), .bool false, .bool false, .int .i64 tt, .bool true, .bool true, .bool true, undef, undef, .bool true, undef, undef, undef, undef, undef, undef, undef, undef, undef, undef, undef, undef, undef, undef, undef, undef, undef, undef, undef, undef, undef, undef, undef, undef, undef, undef, undef, undef, undef, undef, undef, undef, undef, undef, undef, undef, undef, undef, undef, undef, undef, undef, undef, undef, undef, undef, undef, undef, undef]) rfl ?_
        refine hK15 _ _ ?_
        refine c_true rfl ?_
        refine wp_seq_k (fun K18 hK19 => ?_)
        refine c_region (fun ops21 hops20 => ?_)
        clear hops20
        refine p_run (l' := _) _ (x_assign (.bool true) rfl rfl) rfl ?_
        refine wpList_nil ?_
        refine fr_at (l' := [.slice A0 l0.length c0, .int .i64 tt, undef, undef, .bool true, undef, undef, undef, undef, undef, undef, undef, .bool true, .bool false, .slice A0 l0.length c0, .int .i64 (l0.length : Int), .bool false, .bool false, .int .i64 tt, .bool true, .bool true, .bool true, undef, undef, .bool true, undef, undef, undef, undef, undef, undef, undef, undef, undef, undef, undef, undef, undef, undef, undef, undef, undef, undef, undef, undef, undef, undef, undef, undef, undef, undef, undef, undef, undef, undef, undef, undef, undef, undef, undef, undef, undef, undef, undef, undef, undef, undef, undef, undef, undef, undef, undef, undef, undef]) rfl ?_
        refine hK19 _ _ ?_
        refine wp_ret ?_
        try simp only [Exit.inBlock, Exit.then]
        refine c_ret (.bool true) (r_tmp rfl rfl) ?_
        exact ⟨rfl, HS.belowOf⟩
      · skip
        have h1d := decide_eq_false h1
        by_cases h2 : tt > 1
        · skip
          have h2d := decide_eq_true h2
          refine c_enter Try.func9 rfl 74 rfl [.slice A0 l0.length c0, .int .i64 tt, undef, undef, undef, undef, undef, undef, undef, undef, undef, undef, undef, undef, undef, undef, undef, undef, undef, undef, undef, undef, undef, undef, undef, undef, undef, undef, undef, undef, undef, undef, undef, undef, undef, undef, undef, undef, undef, undef, undef, undef, undef, undef, undef, undef, undef, undef, undef, undef, undef, undef, undef, undef, undef, undef, undef, undef, undef, undef, undef, undef, undef, undef, undef, undef, undef, undef, undef, undef, undef, undef, undef, undef] rfl ?_
          refine wp_seq_k (fun K1 hK2 => ?_)
          refine c_region (fun ops4 hops3 => ?_)
          clear hops3
          refine p_run (l' := _) _ (x_assign (.bool false) rfl rfl) rfl ?_
          refine wpList_nil ?_
          refine fr_at (l' := [.slice A0 l0.length c0, .int .i64 tt, undef, undef, .bool false, undef, undef, undef, undef, undef, undef, undef, undef, undef, undef, undef, undef, undef, undef, undef, undef, undef, undef, undef, undef, undef, undef, undef, undef, undef, undef, undef, undef, undef, undef, undef, undef, undef, undef, undef, undef, undef, undef, undef, undef, undef, undef, undef, undef, undef, undef, undef, undef, undef, undef, undef, undef, undef, undef, undef, undef, undef, undef, undef, undef, undef, undef, undef, undef, undef, undef, undef, undef, undef]) rfl ?_
          refine hK2 _ _ ?_
          refine wp_seq_k (fun K5 hK6 => ?_)
          refine wp_seq_k (fun K7 hK8 => ?_)
          refine c_region (fun ops10 hops9 => ?_)
          clear hops9
          refine w_call [] Try.func21 (by kernel_rfl) (by rfl) rfl ?_
          refine (nAlive_any HS).mono ?_
          clear HS
          rintro e w11 ⟨rfl, HS⟩
          refine ⟨_, rfl, ?_⟩
          refine p_run (l' := _) _ (x_not true rfl rfl) rfl ?_
          refine wpList_nil ?_
          refine fr_at (l' := [.slice A0 l0.length c0, .int .i64 tt, undef, undef, .bool false, undef, undef, undef, undef, undef, undef, undef, .bool true, .bool false, undef, undef, undef, undef, undef, undef, undef, undef, undef, undef, undef, undef, undef, undef, undef, undef, undef, undef, undef, undef, undef, undef, undef, undef, undef, undef, undef, undef, undef, undef, undef, undef, undef, undef, undef, undef, undef, undef, undef, undef, undef, undef, undef, undef, undef, undef, undef, undef, undef, undef, undef, undef, undef, undef, undef, undef, undef, undef, undef, undef]) rfl ?_
          refine hK8 _ _ ?_
          refine c_false rfl ?_
          refine wp_skip ?_
          refine hK6 _ _ ?_
          refine wp_seq_k (fun K12 hK13 => ?_)
          refine wp_seq_k (fun K14 hK15 => ?_)
          refine c_region (fun ops17 hops16 => ?_)
          refine p_run (l' := _) _ (x_move (.slice A0 l0.length c0) rfl rfl) rfl ?_
          refine p_run (l' := _) _ (x_len rfl rfl Try.underlying22) rfl ?_
          refine p_run (l' := _) _ (x_cmp (k := .i64) (m := (l0.length : Int)) (n := 100) .gtr false rfl rfl rfl h0d rfl) rfl ?_
          refine p_run (l' := [.slice A0 l0.length c0, .int .i64 tt, undef, undef, .bool false, undef, undef, undef, undef, undef, undef, undef, .bool true, .bool false, .slice A0 l0.length c0, .int .i64 (l0.length : Int), .bool false, .bool false, undef, undef, undef, undef, undef, undef, undef, undef, undef, undef, undef, undef, undef, undef, undef, undef, undef, undef, undef, undef, undef, undef, undef, undef, undef, undef, undef, undef, undef, undef, undef, undef, undef, undef, undef, undef, undef, undef, undef, undef, undef, undef, undef, undef, undef, undef, undef, undef, undef, undef, undef, undef, undef, undef, undef, undef]) _ (x_move (.bool false) rfl rfl) rfl ?_
          refine p_on rfl (by rw [hops16]; rfl) ?_
          refine p_run (l' := _) _ (x_move (.int .i64 tt) rfl rfl) rfl ?_
          refine p_on rfl (by rw [hops16]; rfl) ?_
          refine p_run (l' := _) _ (x_cmp (k := .i64) (m := tt) (n := 0) .lss false rfl rfl rfl h1d rfl) rfl ?_
          refine p_run (l' := _) _ (x_pick false (.bool true) (.bool false) (.bool false) rfl rfl rfl rfl rfl) rfl ?_
          refine p_run (l' := [.slice A0 l0.length c0, .int .i64 tt, undef, undef, .bool false, undef, undef, undef, undef, undef, undef, undef, .bool true, .bool false, .slice A0 l0.length c0, .int .i64 (l0.length : Int), .bool false, .bool false, .int .i64 tt, .bool false, .bool false, .bool false, undef, undef, undef, undef, undef, undef, undef, undef, undef, undef, undef, undef, undef, undef, undef, undef, undef, undef, undef, undef, undef, undef, undef, undef, undef, undef, undef, undef, undef, undef, undef, undef, undef, undef, undef, undef, undef, undef, undef, undef, undef, undef, undef, undef, undef, undef, undef, undef, undef, undef, undef, undef]) _ (x_move (.bool false) rfl rfl) rfl ?_
          refine p_on rfl (by rw [hops16]; rfl) ?_
          refine p_run (l' := _) _ (x_move (.int .i64 tt) rfl rfl) rfl ?_
          refine p_on rfl (by rw [hops16]; rfl) ?_
          refine p_run (l' := _) _ (x_cmp (k := .i64) (m := tt) (n := 1) .gtr true rfl rfl rfl h2d rfl) rfl ?_
          refine p_run (l' := _) _ (x_pick false (.bool true) (.bool true) (.bool true) rfl rfl rfl rfl rfl) rfl ?_
          clear hops16
          refine wpList_nil ?_
          refine fr_at (l' := [.slice A0 l0.length c0, .int .i64 tt, undef, undef, .bool false, undef, undef, undef, undef, undef, undef, undef, .bool true, .bool false, .slice A0 l0.length c0, .int .i64 (l0.length : Int), .bool false, .bool false, .int .i64 tt, .bool false, .bool false, .bool false, .int .i64 tt, .bool true, .bool true, undef, undef, undef, undef, undef, undef, undef, undef, undef, undef, undef, undef, undef, undef, undef, undef, undef, undef, undef, undef, undef, undef, undef, undef, undef, undef, undef, undef, undef, undef, undef, undef, undef, undef, undef, undef, undef, undef, undef, undef, undef, undef, undef, undef, undef, undef, undef, undef, undef]) rfl ?_
          refine hK15 _ _ ?_
          refine c_true rfl ?_
          refine wp_seq_k (fun K18 hK19 => ?_)
          refine c_region (fun ops21 hops20 => ?_)
          clear hops20
          refine p_run (l' := _) _ (x_assign (.bool true) rfl rfl) rfl ?_
          refine wpList_nil ?_
          refine fr_at (l' := [.slice A0 l0.length c0, .int .i64 tt, undef, undef, .bool true, undef, undef, undef, undef, undef, undef, undef, .bool true, .bool false, .slice A0 l0.length c0, .int .i64 (l0.length : Int), .bool false, .bool false, .int .i64 tt, .bool false, .bool false, .bool false, .int .i64 tt, .bool true, .bool true, undef, undef, undef, undef, undef, undef, undef, undef, undef, undef, undef, undef, undef, undef, undef, undef, undef, undef, undef, undef, undef, undef, undef, undef, undef, undef, undef, undef, undef, undef, undef, undef, undef, undef, undef, undef, undef, undef, undef, undef, undef, undef, undef, undef, undef, undef, undef, undef, undef]) rfl ?_
          refine hK19 _ _ ?_
          refine wp_ret ?_
          try simp only [Exit.inBlock, Exit.then]
          refine c_ret (.bool true) (r_tmp rfl rfl) ?_
          exact ⟨rfl, HS.belowOf⟩
        · skip
          have h2d := decide_eq_false h2
          · skip
            have ht : 0 ≤ tt ∧ tt < 2 := by omega
            refine c_enter Try.func9 rfl 74 rfl [.slice A0 l0.length c0, .int .i64 tt, undef, undef, undef, undef, undef, undef, undef, undef, undef, undef, undef, undef, undef, undef, undef, undef, undef, undef, undef, undef, undef, undef, undef, undef, undef, undef, undef, undef, undef, undef, undef, undef, undef, undef, undef, undef, undef, undef, undef, undef, undef, undef, undef, undef, undef, undef, undef, undef, undef, undef, undef, undef, undef, undef, undef, undef, undef, undef, undef, undef, undef, undef, undef, undef, undef, undef, undef, undef, undef, undef, undef, undef] rfl ?_
            refine wp_seq_k (fun K1 hK2 => ?_)
            refine c_region (fun ops4 hops3 => ?_)
            clear hops3
            refine p_run (l' := _) _ (x_assign (.bool false) rfl rfl) rfl ?_
            refine wpList_nil ?_
            refine fr_at (l' := [.slice A0 l0.length c0, .int .i64 tt, undef, undef, .bool false, undef, undef, undef, undef, undef, undef, undef, undef, undef, undef, undef, undef, undef, undef, undef, undef, undef, undef, undef, undef, undef, undef, undef, undef, undef, undef, undef, undef, undef, undef, undef, undef, undef, undef, undef, undef, undef, undef, undef, undef, undef, undef, undef, undef, undef, undef, undef, undef, undef, undef, undef, undef, undef, undef, undef, undef, undef, undef, undef, undef, undef, undef, undef, undef, undef, undef, undef, undef, undef]) rfl ?_
            refine hK2 _ _ ?_
            refine wp_seq_k (fun K5 hK6 => ?_)
            refine wp_seq_k (fun K7 hK8 => ?_)
            refine c_region (fun ops10 hops9 => ?_)
            clear hops9
            refine w_call [] Try.func21 (by kernel_rfl) (by rfl) rfl ?_
            refine (nAlive_any HS).mono ?_
            clear HS
            rintro e w11 ⟨rfl, HS⟩
            refine ⟨_, rfl, ?_⟩
            refine p_run (l' := _) _ (x_not true rfl rfl) rfl ?_
            refine wpList_nil ?_
            refine fr_at (l' := [.slice A0 l0.length c0, .int .i64 tt, undef, undef, .bool false, undef, undef, undef, undef, undef, undef, undef, .bool true, .bool false, undef, undef, undef, undef, undef, undef, undef, undef, undef, undef, undef, undef, undef, undef, undef, undef, undef, undef, undef, undef, undef, undef, undef, undef, undef, undef, undef, undef, undef, undef, undef, undef, undef, undef, undef, undef, undef, undef, undef, undef, undef, undef, undef, undef, undef, undef, undef, undef, undef, undef, undef, undef, undef, undef, undef, undef, undef, undef, undef, undef]) rfl ?_
            refine hK8 _ _ ?_
            refine c_false rfl ?_
            refine wp_skip ?_
            refine hK6 _ _ ?_
            refine wp_seq_k (fun K12 hK13 => ?_)
            refine wp_seq_k (fun K14 hK15 => ?_)
            refine c_region (fun ops17 hops16 => ?_)
            refine p_run (l' := _) _ (x_move (.slice A0 l0.length c0) rfl rfl) rfl ?_
            refine p_run (l' := _) _ (x_len rfl rfl Try.underlying22) rfl ?_
            refine p_run (l' := _) _ (x_cmp (k := .i64) (m := (l0.length : Int)) (n := 100) .gtr false rfl rfl rfl h0d rfl) rfl ?_
            refine p_run (l' := [.slice A0 l0.length c0, .int .i64 tt, undef, undef, .bool false, undef, undef, undef, undef, undef, undef, undef, .bool true, .bool false, .slice A0 l0.length c0, .int .i64 (l0.length : Int), .bool false, .bool false, undef, undef, undef, undef, undef, undef, undef, undef, undef, undef, undef, undef, undef, undef, undef, undef, undef, undef, undef, undef, undef, undef, undef, undef, undef, undef, undef, undef, undef, undef, undef, undef, undef, undef, undef, undef, undef, undef, undef, undef, undef, undef, undef, undef, undef, undef, undef, undef, undef, undef, undef, undef, undef, undef, undef, undef]) _ (x_move (.bool false) rfl rfl) rfl ?_
            refine p_on rfl (by rw [hops16]; rfl) ?_
            refine p_run (l' := _) _ (x_move (.int .i64 tt) rfl rfl) rfl ?_
            refine p_on rfl (by rw [hops16]; rfl) ?_
            refine p_run (l' := _) _ (x_cmp (k := .i64) (m := tt) (n := 0) .lss false rfl rfl rfl h1d rfl) rfl ?_
            refine p_run (l' := _) _ (x_pick false (.bool true) (.bool false) (.bool false) rfl rfl rfl rfl rfl) rfl ?_
            refine p_run (l' := [.slice A0 l0.length c0, .int .i64 tt, undef, undef, .bool false, undef, undef, undef, undef, undef, undef, undef, .bool true, .bool false, .slice A0 l0.length c0, .int .i64 (l0.length : Int), .bool false, .bool false, .int .i64 tt, .bool false, .bool false, .bool false, undef, undef, undef, undef, undef, undef, undef, undef, undef, undef, undef, undef, undef, undef, undef, undef, undef, undef, undef, undef, undef, undef, undef, undef, undef, undef, undef, undef, undef, undef, undef, undef, undef, undef, undef, undef, undef, undef, undef, undef, undef, undef, undef, undef, undef, undef, undef, undef, undef, undef, undef, undef]) _ (x_move (.bool false) rfl rfl) rfl ?_
            refine p_on rfl (by rw [hops16]; rfl) ?_
            refine p_run (l' := _) _ (x_move (.int .i64 tt) rfl rfl) rfl ?_
            refine p_on rfl (by rw [hops16]; rfl) ?_
            refine p_run (l' := _) _ (x_cmp (k := .i64) (m := tt) (n := 1) .gtr false rfl rfl rfl h2d rfl) rfl ?_
            refine p_run (l' := _) _ (x_pick false (.bool true) (.bool false) (.bool false) rfl rfl rfl rfl rfl) rfl ?_
            clear hops16
            refine wpList_nil ?_
            refine fr_at (l' := [.slice A0 l0.length c0, .int .i64 tt, undef, undef, .bool false, undef, undef, undef, undef, undef, undef, undef, .bool true, .bool false, .slice A0 l0.length c0, .int .i64 (l0.length : Int), .bool false, .bool false, .int .i64 tt, .bool false, .bool false, .bool false, .int .i64 tt, .bool false, .bool false, undef, undef, undef, undef, undef, undef, undef, undef, undef, undef, undef, undef, undef, undef, undef, undef, undef, undef, undef, undef, undef, undef, undef, undef, undef, undef, undef, undef, undef, undef, undef, undef, undef, undef, undef, undef, undef, undef, undef, undef, undef, undef, undef, undef, undef, undef, undef, undef, undef]) rfl ?_
            refine hK15 _ _ ?_
            refine c_false rfl ?_
            refine wp_skip ?_
            refine hK13 _ _ ?_
            refine wp_seq_k (fun K18 hK19 => ?_)
            refine c_region (fun ops21 hops20 => ?_)
            clear hops20
            refine w_call [] Try.func22 (by kernel_rfl) (by rfl) rfl ?_
            refine (nNew_any HS).mono ?_
            clear HS
            rintro e w23 ⟨G22, rfl, HS⟩
            refine ⟨_, rfl, ?_⟩
            refine p_run (l' := _) _ (x_assign (.pointer (some ⟨G22, 0, none⟩)) rfl rfl) rfl ?_
            refine wpList_nil ?_
            refine fr_at (l' := [.slice A0 l0.length c0, .int .i64 tt, undef, undef, .bool false, .pointer (some ⟨G22, 0, none⟩), undef, undef, undef, undef, undef, undef, .bool true, .bool false, .slice A0 l0.length c0, .int .i64 (l0.length : Int), .bool false, .bool false, .int .i64 tt, .bool false, .bool false, .bool false, .int .i64 tt, .bool false, .bool false, .pointer (some ⟨G22, 0, none⟩), undef, undef, undef, undef, undef, undef, undef, undef, undef, undef, undef, undef, undef, undef, undef, undef, undef, undef, undef, undef, undef, undef, undef, undef, undef, undef, undef, undef, undef, undef, undef, undef, undef, undef, undef, undef, undef, undef, undef, undef, undef, undef, undef, undef, undef, undef, undef, undef]) rfl ?_
            refine hK19 _ _ ?_
            refine wp_seq_k (fun K24 hK25 => ?_)
            refine wp_seq_k (fun K26 hK27 => ?_)
            refine c_region (fun ops29 hops28 => ?_)
            clear hops28
            refine p_run (l' := _) _ (x_move (.slice A0 l0.length c0) rfl rfl) rfl ?_
            refine p_run (l' := _) _ (x_len rfl rfl Try.underlying22) rfl ?_
            refine p_run (l' := _) _ (x_move (.int .i64 0) rfl rfl) rfl ?_
            refine wpList_nil ?_
            refine fr_at (l' := [.slice A0 l0.length c0, .int .i64 tt, undef, undef, .bool false, .pointer (some ⟨G22, 0, none⟩), undef, undef, undef, undef, undef, undef, .bool true, .bool false, .slice A0 l0.length c0, .int .i64 (l0.length : Int), .bool false, .bool false, .int .i64 tt, .bool false, .bool false, .bool false, .int .i64 tt, .bool false, .bool false, .pointer (some ⟨G22, 0, none⟩), .slice A0 l0.length c0, .int .i64 (l0.length : Int), .int .i64 0, undef, undef, undef, undef, undef, undef, undef, undef, undef, undef, undef, undef, undef, undef, undef, undef, undef, undef, undef, undef, undef, undef, undef, undef, undef, undef, undef, undef, undef, undef, undef, undef, undef, undef, undef, undef, undef, undef, undef, undef, undef, undef, undef, undef, undef]) rfl ?_
            refine hK27 _ _ ?_
            refine wp_block ?_
            refine c_loop (ι := Nat × Value × List Fr_) (fun i_ a_ w_ => match i_ with | (i, v, fs) => ∃ (u4 : Value) (u7 : Value) (u29 : Value) (u30 : Value) (u31 : Value) (u32 : Value) (u33 : Value) (u34 : Value) (u35 : Value) (u36 : Value) (u37 : Value) (u38 : Value) (u39 : Value), a_ = fr [.slice A0 l0.length c0, .int .i64 tt, undef, undef, u4, .pointer (some ⟨G22, 0, none⟩), undef, u7, undef, undef, undef, undef, .bool true, .bool false, .slice A0 l0.length c0, .int .i64 (l0.length : Int), .bool false, .bool false, .int .i64 tt, .bool false, .bool false, .bool false, .int .i64 tt, .bool false, .bool false, .pointer (some ⟨G22, 0, none⟩), .slice A0 l0.length c0, .int .i64 (l0.length : Int), .int .i64 (i : Int), u29, u30, u31, u32, u33, u34, u35, u36, u37, u38, u39, undef, undef, undef, undef, undef, undef, undef, undef, undef, undef, undef, undef, undef, undef, undef, undef, undef, undef, undef, undef, undef, undef, undef, undef, undef, undef, undef, undef, undef, undef, undef, undef, undef, undef] ∧ St w (fun _ => False) w_ ([blk G22 [v] 72, row kPk rfl 75 v (pk fs), allR (frs fs)]) ∧ (toN fs = onW tt ((l0.take i).take 64) ∧ (∀ b ∈ l0.take i, b.length ≤ 200) ∧ i ≤ l0.length)) (fun i_ => match i_ with | (i, v, fs) => l0.length - i) (0, .slice none 0 0, []) ?_ ?_
            · exact ⟨_, _, _, _, _, _, _, _, _, _, _, _, _, rfl, (((HS.front 2 rfl).front 2 rfl).front 2 rfl), ⟨rfl, fun b hb => by simp at hb, Nat.zero_le _⟩⟩
            · clear HS
              rintro ⟨i, v, fs⟩ a_ w32 ⟨u4, u7, u29, u30, u31, u32, u33, u34, u35, u36, u37, u38, u39, rfl, HS, hI⟩ J30 hJ31
              obtain ⟨hO, hall, hil⟩ := hI
              refine wp_seq_k (fun K33 hK34 => ?_)
              refine c_region (fun ops36 hops35 => ?_)
              clear hops35
              refine p_run (l' := _) _ (x_cmp (k := .i64) (m := (i : Int)) (n := (l0.length : Int)) .lss (decide ((i : Int) < (l0.length : Int))) rfl rfl rfl rfl rfl) rfl ?_
              refine wpList_nil ?_
              refine fr_at (l' := [.slice A0 l0.length c0, .int .i64 tt, undef, undef, u4, .pointer (some ⟨G22, 0, none⟩), undef, u7, undef, undef, undef, undef, .bool true, .bool false, .slice A0 l0.length c0, .int .i64 (l0.length : Int), .bool false, .bool false, .int .i64 tt, .bool false, .bool false, .bool false, .int .i64 tt, .bool false, .bool false, .pointer (some ⟨G22, 0, none⟩), .slice A0 l0.length c0, .int .i64 (l0.length : Int), .int .i64 (i : Int), .bool (decide ((i : Int) < (l0.length : Int))), u30, u31, u32, u33, u34, u35, u36, u37, u38, u39, undef, undef, undef, undef, undef, undef, undef, undef, undef, undef, undef, undef, undef, undef, undef, undef, undef, undef, undef, undef, undef, undef, undef, undef, undef, undef, undef, undef, undef, undef, undef, undef, undef, undef]) rfl ?_
              refine hK34 _ _ ?_
              refine wp_seq_k (fun K37 hK38 => ?_)
              refine c_cond (t := decide ((i : Int) < (l0.length : Int))) rfl (fun hc39 => ?_) (fun hc39 => ?_)
              · have hlt : i < l0.length := by have := of_decide_eq_true hc39; omega
                have hfl := on_len hO
                rw [List.length_take, List.length_take] at hfl
                obtain ⟨ad, B, cB, bb, rfl, hbb, hcell0, hsl⟩ := bn_get hr0 i hlt
                have hcell := cell_below HS.belowOf hcell0
                refine wp_skip ?_
                refine hK38 _ _ ?_
                refine wp_seq_k (fun K40 hK41 => ?_)
                refine wp_block ?_
                refine wp_seq_k (fun K42 hK43 => ?_)
                refine c_region (fun ops45 hops44 => ?_)
                clear hops44
                refine p_run (l' := _) _ (x_index (A := ad) (j := i * 1) (sz := 1) rfl rfl rfl Try.underlying22 (by kernel_rfl) (by omega) rfl) rfl ?_
                refine p_run (l' := _) _ (x_load (.slice B bb.length cB) rfl rfl hcell (by rfl)) rfl ?_
                refine p_run (l' := _) _ (x_assign (.slice B bb.length cB) rfl rfl) rfl ?_
                refine wpList_nil ?_
                refine fr_at (l' := [.slice (some ad) l0.length c0, .int .i64 tt, undef, undef, u4, .pointer (some ⟨G22, 0, none⟩), undef, .slice B bb.length cB, undef, undef, undef, undef, .bool true, .bool false, .slice (some ad) l0.length c0, .int .i64 (l0.length : Int), .bool false, .bool false, .int .i64 tt, .bool false, .bool false, .bool false, .int .i64 tt, .bool false, .bool false, .pointer (some ⟨G22, 0, none⟩), .slice (some ad) l0.length c0, .int .i64 (l0.length : Int), .int .i64 (i : Int), .bool (decide ((i : Int) < (l0.length : Int))), .pointer (some ((ad).add (i * 1))), .slice B bb.length cB, u32, u33, u34, u35, u36, u37, u38, u39, undef, undef, undef, undef, undef, undef, undef, undef, undef, undef, undef, undef, undef, undef, undef, undef, undef, undef, undef, undef, undef, undef, undef, undef, undef, undef, undef, undef, undef, undef, undef, undef, undef, undef]) rfl ?_
                refine hK43 _ _ ?_
                refine wp_seq_k (fun K46 hK47 => ?_)
                refine wp_seq_k (fun K48 hK49 => ?_)
                refine c_region (fun ops51 hops50 => ?_)
                clear hops50
                refine p_run (l' := _) _ (x_move (.slice B bb.length cB) rfl rfl) rfl ?_
                refine p_run (l' := _) _ (x_len rfl rfl Try.underlying24) rfl ?_
                refine p_run (l' := _) _ (x_cmp (k := .i64) (m := (bb.length : Int)) (n := 200) .gtr (decide ((bb.length : Int) > 200)) rfl rfl rfl rfl rfl) rfl ?_
                refine wpList_nil ?_
                refine fr_at (l' := [.slice (some ad) l0.length c0, .int .i64 tt, undef, undef, u4, .pointer (some ⟨G22, 0, none⟩), undef, .slice B bb.length cB, undef, undef, undef, undef, .bool true, .bool false, .slice (some ad) l0.length c0, .int .i64 (l0.length : Int), .bool false, .bool false, .int .i64 tt, .bool false, .bool false, .bool false, .int .i64 tt, .bool false, .bool false, .pointer (some ⟨G22, 0, none⟩), .slice (some ad) l0.length c0, .int .i64 (l0.length : Int), .int .i64 (i : Int), .bool (decide ((i : Int) < (l0.length : Int))), .pointer (some ((ad).add (i * 1))), .slice B bb.length cB, .slice B bb.length cB, .int .i64 (bb.length : Int), .bool (decide ((bb.length : Int) > 200)), u35, u36, u37, u38, u39, undef, undef, undef, undef, undef, undef, undef, undef, undef, undef, undef, undef, undef, undef, undef, undef, undef, undef, undef, undef, undef, undef, undef, undef, undef, undef, undef, undef, undef, undef, undef, undef, undef, undef]) rfl ?_
                refine hK49 _ _ ?_
                refine c_cond (t := decide ((bb.length : Int) > 200)) rfl (fun hc52 => ?_) (fun hc52 => ?_)
                · have hb2 :  bb.length > 200 := by have := of_decide_eq_true hc52; omega
                  refine wp_seq_k (fun K53 hK54 => ?_)
                  refine c_region (fun ops56 hops55 => ?_)
                  clear hops55
                  refine p_run (l' := _) _ (x_assign (.bool true) rfl rfl) rfl ?_
                  refine wpList_nil ?_
                  refine fr_at (l' := [.slice (some ad) l0.length c0, .int .i64 tt, undef, undef, .bool true, .pointer (some ⟨G22, 0, none⟩), undef, .slice B bb.length cB, undef, undef, undef, undef, .bool true, .bool false, .slice (some ad) l0.length c0, .int .i64 (l0.length : Int), .bool false, .bool false, .int .i64 tt, .bool false, .bool false, .bool false, .int .i64 tt, .bool false, .bool false, .pointer (some ⟨G22, 0, none⟩), .slice (some ad) l0.length c0, .int .i64 (l0.length : Int), .int .i64 (i : Int), .bool (decide ((i : Int) < (l0.length : Int))), .pointer (some ((ad).add (i * 1))), .slice B bb.length cB, .slice B bb.length cB, .int .i64 (bb.length : Int), .bool (decide ((bb.length : Int) > 200)), u35, u36, u37, u38, u39, undef, undef, undef, undef, undef, undef, undef, undef, undef, undef, undef, undef, undef, undef, undef, undef, undef, undef, undef, undef, undef, undef, undef, undef, undef, undef, undef, undef, undef, undef, undef, undef, undef, undef]) rfl ?_
                  refine hK54 _ _ ?_
                  refine wp_ret ?_
                  try simp only [Exit.inBlock, Exit.then]
                  refine c_ret (.bool true) (r_tmp rfl rfl) ?_
                  exact ⟨rfl, HS.belowOf⟩
                · have hb2 : ¬ bb.length > 200 := by have := of_decide_eq_false hc52; omega
                  refine wp_skip ?_
                  refine hK47 _ _ ?_
                  refine c_region (fun ops58 hops57 => ?_)
                  clear hops57
                  refine p_run (l' := _) _ (x_move (.pointer (some ⟨G22, 0, none⟩)) rfl rfl) rfl ?_
                  refine p_run (l' := _) _ (x_move (.int .i64 tt) rfl rfl) rfl ?_
                  refine p_run (l' := _) _ (x_move (.slice B bb.length cB) rfl rfl) rfl ?_
                  refine w_call [.pointer (some ⟨G22, 0, none⟩), .int .i64 tt, .slice B bb.length cB] Try.func23 (by kernel_rfl) (by rfl) rfl ?_
                  replace HS := (((HS.front 2 rfl).front 2 rfl).front 2 rfl)
                  refine (nSend_any HS tt (xs := bb) (fun w hw => hsl.below hw.belowOf) (by omega) (by omega)).mono ?_
                  clear HS
                  rintro e w61 ⟨v59, v60, rfl, HS⟩
                  refine ⟨_, rfl, ?_⟩
                  refine fr_to (l' := [.slice (some ad) l0.length c0, .int .i64 tt, undef, undef, u4, .pointer (some ⟨G22, 0, none⟩), undef, .slice B bb.length cB, undef, undef, undef, undef, .bool true, .bool false, .slice (some ad) l0.length c0, .int .i64 (l0.length : Int), .bool false, .bool false, .int .i64 tt, .bool false, .bool false, .bool false, .int .i64 tt, .bool false, .bool false, .pointer (some ⟨G22, 0, none⟩), .slice (some ad) l0.length c0, .int .i64 (l0.length : Int), .int .i64 (i : Int), .bool (decide ((i : Int) < (l0.length : Int))), .pointer (some ((ad).add (i * 1))), .slice B bb.length cB, .slice B bb.length cB, .int .i64 (bb.length : Int), .bool (decide ((bb.length : Int) > 200)), .pointer (some ⟨G22, 0, none⟩), .int .i64 tt, .slice B bb.length cB, .tuple [].toArray, u39, undef, undef, undef, undef, undef, undef, undef, undef, undef, undef, undef, undef, undef, undef, undef, undef, undef, undef, undef, undef, undef, undef, undef, undef, undef, undef, undef, undef, undef, undef, undef, undef, undef, undef]) rfl ?_
                  refine wpList_nil ?_
                  refine hK41 _ _ ?_
                  refine c_region (fun ops63 hops62 => ?_)
                  clear hops62
                  refine p_run (l' := _) _ (x_arith (k := .i64) (m := (i : Int)) (n := 1) .add (((i + 1 : Nat) : Int)) rfl rfl rfl (show IntKind.i64.wrap ((i : Int) + 1) = ((i + 1 : Nat) : Int) from ((wr64 (by omega)).trans (by omega))) rfl) rfl ?_
                  refine p_run (l' := _) _ (x_move (.int .i64 ((i + 1 : Nat) : Int)) rfl rfl) rfl ?_
                  refine wpList_nil ?_
                  refine fr_at (l' := [.slice (some ad) l0.length c0, .int .i64 tt, undef, undef, u4, .pointer (some ⟨G22, 0, none⟩), undef, .slice B bb.length cB, undef, undef, undef, undef, .bool true, .bool false, .slice (some ad) l0.length c0, .int .i64 (l0.length : Int), .bool false, .bool false, .int .i64 tt, .bool false, .bool false, .bool false, .int .i64 tt, .bool false, .bool false, .pointer (some ⟨G22, 0, none⟩), .slice (some ad) l0.length c0, .int .i64 (l0.length : Int), .int .i64 ((i + 1 : Nat) : Int), .bool (decide ((i : Int) < (l0.length : Int))), .pointer (some ((ad).add (i * 1))), .slice B bb.length cB, .slice B bb.length cB, .int .i64 (bb.length : Int), .bool (decide ((bb.length : Int) > 200)), .pointer (some ⟨G22, 0, none⟩), .int .i64 tt, .slice B bb.length cB, .tuple [].toArray, .int .i64 ((i + 1 : Nat) : Int), undef, undef, undef, undef, undef, undef, undef, undef, undef, undef, undef, undef, undef, undef, undef, undef, undef, undef, undef, undef, undef, undef, undef, undef, undef, undef, undef, undef, undef, undef, undef, undef, undef, undef]) rfl ?_
                  refine hJ31 (i + 1, v59, (sendF fs tt v60 bb)) _ _ ?_ ?_
                  · show l0.length - (i + 1) < l0.length - i; omega
                  · exact ⟨_, _, _, _, _, _, _, _, _, _, _, _, _, rfl, (((HS.front 2 rfl).front 2 rfl).front 2 rfl), ⟨on_send hO hbb ht _, on_all hall hbb (by omega), by omega⟩⟩
              · obtain rfl : l0.length = i := by have := of_decide_eq_false hc39; omega
                rw [List.take_length] at hO hall
                have hall0 := hall
                refine wp_exit ?_
                refine hK25 _ _ ?_
                refine wp_seq_k (fun K64 hK65 => ?_)
                refine wp_seq_k (fun K66 hK67 => ?_)
                refine c_region (fun ops69 hops68 => ?_)
                clear hops68
                refine p_run (l' := _) _ (x_move (.slice A0 l0.length c0) rfl rfl) rfl ?_
                refine p_run (l' := _) _ (x_len rfl rfl Try.underlying22) rfl ?_
                refine p_run (l' := _) _ (x_move (.int .i64 0) rfl rfl) rfl ?_
                refine wpList_nil ?_
                refine fr_at (l' := [.slice A0 l0.length c0, .int .i64 tt, undef, undef, u4, .pointer (some ⟨G22, 0, none⟩), undef, u7, undef, undef, undef, undef, .bool true, .bool false, .slice A0 l0.length c0, .int .i64 (l0.length : Int), .bool false, .bool false, .int .i64 tt, .bool false, .bool false, .bool false, .int .i64 tt, .bool false, .bool false, .pointer (some ⟨G22, 0, none⟩), .slice A0 l0.length c0, .int .i64 (l0.length : Int), .int .i64 (l0.length : Int), .bool (decide ((l0.length : Int) < (l0.length : Int))), u30, u31, u32, u33, u34, u35, u36, u37, u38, u39, .slice A0 l0.length c0, .int .i64 (l0.length : Int), .int .i64 0, undef, undef, undef, undef, undef, undef, undef, undef, undef, undef, undef, undef, undef, undef, undef, undef, undef, undef, undef, undef, undef, undef, undef, undef, undef, undef, undef, undef, undef, undef, undef]) rfl ?_
                refine hK67 _ _ ?_
                refine wp_block ?_
                refine c_loop (ι := Nat × Value × List Fr_) (fun i_ a_ w_ => match i_ with | (j, v, fs) => ∃ (uq70 : Value × Value × Value × Value × Value × Value) (uq71 : Value × Value × Value × Value × Value × Value) (uq72 : Value × Value × Value × Value × Value × Value) (uq73 : Value × Value × Value × Value × Value × Value) (uq74 : Value × Value × Value × Value), a_ = fr [.slice A0 l0.length c0, .int .i64 tt, undef, undef, uq70.1, .pointer (some ⟨G22, 0, none⟩), undef, u7, uq70.2.1, uq70.2.2.1, uq70.2.2.2.1, uq70.2.2.2.2.1, .bool true, .bool false, .slice A0 l0.length c0, .int .i64 (l0.length : Int), .bool false, .bool false, .int .i64 tt, .bool false, .bool false, .bool false, .int .i64 tt, .bool false, .bool false, .pointer (some ⟨G22, 0, none⟩), .slice A0 l0.length c0, .int .i64 (l0.length : Int), .int .i64 (l0.length : Int), .bool (decide ((l0.length : Int) < (l0.length : Int))), u30, u31, u32, u33, u34, u35, u36, u37, u38, u39, .slice A0 l0.length c0, .int .i64 (l0.length : Int), .int .i64 (j : Int), uq70.2.2.2.2.2, uq71.1, uq71.2.1, uq71.2.2.1, uq71.2.2.2.1, uq71.2.2.2.2.1, uq71.2.2.2.2.2, uq72.1, uq72.2.1, uq72.2.2.1, uq72.2.2.2.1, uq72.2.2.2.2.1, uq72.2.2.2.2.2, uq73.1, uq73.2.1, uq73.2.2.1, uq73.2.2.2.1, uq73.2.2.2.2.1, uq73.2.2.2.2.2, uq74.1, uq74.2.1, uq74.2.2.1, uq74.2.2.2, undef, undef, undef, undef, undef, undef, undef, undef] ∧ St w (fun _ => False) w_ ([blk G22 [v] 72, row kPk rfl 75 v (pk fs), allR (frs fs)]) ∧ (toN fs = onW tt ((l0.take 64).drop j))) (fun i_ => match i_ with | (j, v, fs) => l0.length - j) (0, v, fs) ?_ ?_
                · exact ⟨(u4, undef, undef, undef, undef, undef), (undef, undef, undef, undef, undef, undef), (undef, undef, undef, undef, undef, undef), (undef, undef, undef, undef, undef, undef), (undef, undef, undef, undef), rfl, (((HS.front 2 rfl).front 2 rfl).front 2 rfl), hO⟩
                · clear HS
                  rintro ⟨j, v, fs⟩ a_ w77 ⟨uq70, uq71, uq72, uq73, uq74, rfl, HS, hI⟩ J75 hJ76
                  have hO := hI
                  refine wp_seq_k (fun K78 hK79 => ?_)
                  refine c_region (fun ops81 hops80 => ?_)
                  clear hops80
                  refine p_run (l' := _) _ (x_cmp (k := .i64) (m := (j : Int)) (n := (l0.length : Int)) .lss (decide ((j : Int) < (l0.length : Int))) rfl rfl rfl rfl rfl) rfl ?_
                  refine wpList_nil ?_
                  refine fr_at (l' := [.slice A0 l0.length c0, .int .i64 tt, undef, undef, uq70.1, .pointer (some ⟨G22, 0, none⟩), undef, u7, uq70.2.1, uq70.2.2.1, uq70.2.2.2.1, uq70.2.2.2.2.1, .bool true, .bool false, .slice A0 l0.length c0, .int .i64 (l0.length : Int), .bool false, .bool false, .int .i64 tt, .bool false, .bool false, .bool false, .int .i64 tt, .bool false, .bool false, .pointer (some ⟨G22, 0, none⟩), .slice A0 l0.length c0, .int .i64 (l0.length : Int), .int .i64 (l0.length : Int), .bool (decide ((l0.length : Int) < (l0.length : Int))), u30, u31, u32, u33, u34, u35, u36, u37, u38, u39, .slice A0 l0.length c0, .int .i64 (l0.length : Int), .int .i64 (j : Int), .bool (decide ((j : Int) < (l0.length : Int))), uq71.1, uq71.2.1, uq71.2.2.1, uq71.2.2.2.1, uq71.2.2.2.2.1, uq71.2.2.2.2.2, uq72.1, uq72.2.1, uq72.2.2.1, uq72.2.2.2.1, uq72.2.2.2.2.1, uq72.2.2.2.2.2, uq73.1, uq73.2.1, uq73.2.2.1, uq73.2.2.2.1, uq73.2.2.2.2.1, uq73.2.2.2.2.2, uq74.1, uq74.2.1, uq74.2.2.1, uq74.2.2.2, undef, undef, undef, undef, undef, undef, undef, undef]) rfl ?_
                  refine hK79 _ _ ?_
                  refine wp_seq_k (fun K82 hK83 => ?_)
                  refine c_cond (t := decide ((j : Int) < (l0.length : Int))) rfl (fun hc84 => ?_) (fun hc84 => ?_)
                  · have hlj : j < l0.length := by have := of_decide_eq_true hc84; omega
                    obtain ⟨ad, B, cB, bb, rfl, hbb, hcell0, hsl⟩ := bn_get hr0 j hlj
                    have hcell := cell_below HS.belowOf hcell0
                    have hb2 := hall0 bb (List.mem_of_getElem? hbb)
                    have hfl := on_len hO
                    rw [List.length_drop, List.length_take] at hfl
                    refine wp_skip ?_
                    refine hK83 _ _ ?_
                    refine wp_seq_k (fun K85 hK86 => ?_)
                    refine wp_block ?_
                    refine wp_seq_k (fun K87 hK88 => ?_)
                    refine c_region (fun ops90 hops89 => ?_)
                    clear hops89
                    refine p_run (l' := _) _ (x_move (.int .i64 (j : Int)) rfl rfl) rfl ?_
                    refine p_run (l' := _) _ (x_index (A := ad) (j := j * 1) (sz := 1) rfl rfl rfl Try.underlying22 (by kernel_rfl) (by omega) rfl) rfl ?_
                    refine p_run (l' := _) _ (x_load (.slice B bb.length cB) rfl rfl hcell (by rfl)) rfl ?_
                    refine p_run (l' := [.slice (some ad) l0.length c0, .int .i64 tt, undef, undef, uq70.1, .pointer (some ⟨G22, 0, none⟩), undef, u7, .int .i64 (j : Int), uq70.2.2.1, uq70.2.2.2.1, uq70.2.2.2.2.1, .bool true, .bool false, .slice (some ad) l0.length c0, .int .i64 (l0.length : Int), .bool false, .bool false, .int .i64 tt, .bool false, .bool false, .bool false, .int .i64 tt, .bool false, .bool false, .pointer (some ⟨G22, 0, none⟩), .slice (some ad) l0.length c0, .int .i64 (l0.length : Int), .int .i64 (l0.length : Int), .bool (decide ((l0.length : Int) < (l0.length : Int))), u30, u31, u32, u33, u34, u35, u36, u37, u38, u39, .slice (some ad) l0.length c0, .int .i64 (l0.length : Int), .int .i64 (j : Int), .bool (decide ((j : Int) < (l0.length : Int))), .int .i64 (j : Int), .pointer (some ((ad).add (j * 1))), .slice B bb.length cB, uq71.2.2.2.1, uq71.2.2.2.2.1, uq71.2.2.2.2.2, uq72.1, uq72.2.1, uq72.2.2.1, uq72.2.2.2.1, uq72.2.2.2.2.1, uq72.2.2.2.2.2, uq73.1, uq73.2.1, uq73.2.2.1, uq73.2.2.2.1, uq73.2.2.2.2.1, uq73.2.2.2.2.2, uq74.1, uq74.2.1, uq74.2.2.1, uq74.2.2.2, undef, undef, undef, undef, undef, undef, undef, undef]) _ (x_assign (.int .i64 (j : Int)) rfl rfl) rfl ?_
                    refine p_run (l' := _) _ (x_assign (.slice B bb.length cB) rfl rfl) rfl ?_
                    refine wpList_nil ?_
                    refine fr_at (l' := [.slice (some ad) l0.length c0, .int .i64 tt, undef, undef, uq70.1, .pointer (some ⟨G22, 0, none⟩), undef, u7, .int .i64 (j : Int), .slice B bb.length cB, uq70.2.2.2.1, uq70.2.2.2.2.1, .bool true, .bool false, .slice (some ad) l0.length c0, .int .i64 (l0.length : Int), .bool false, .bool false, .int .i64 tt, .bool false, .bool false, .bool false, .int .i64 tt, .bool false, .bool false, .pointer (some ⟨G22, 0, none⟩), .slice (some ad) l0.length c0, .int .i64 (l0.length : Int), .int .i64 (l0.length : Int), .bool (decide ((l0.length : Int) < (l0.length : Int))), u30, u31, u32, u33, u34, u35, u36, u37, u38, u39, .slice (some ad) l0.length c0, .int .i64 (l0.length : Int), .int .i64 (j : Int), .bool (decide ((j : Int) < (l0.length : Int))), .int .i64 (j : Int), .pointer (some ((ad).add (j * 1))), .slice B bb.length cB, uq71.2.2.2.1, uq71.2.2.2.2.1, uq71.2.2.2.2.2, uq72.1, uq72.2.1, uq72.2.2.1, uq72.2.2.2.1, uq72.2.2.2.2.1, uq72.2.2.2.2.2, uq73.1, uq73.2.1, uq73.2.2.1, uq73.2.2.2.1, uq73.2.2.2.2.1, uq73.2.2.2.2.2, uq74.1, uq74.2.1, uq74.2.2.1, uq74.2.2.2, undef, undef, undef, undef, undef, undef, undef, undef]) rfl ?_
                    refine hK88 _ _ ?_
                    refine wp_seq_k (fun K91 hK92 => ?_)
                    by_cases hj : j < 64
                    · skip
                      obtain ⟨fv, hf⟩ := on_head hO hbb hj
                      refine c_region (fun ops94 hops93 => ?_)
                      clear hops93
                      refine p_run (l' := _) _ (x_move (.pointer (some ⟨G22, 0, none⟩)) rfl rfl) rfl ?_
                      refine w_call [.pointer (some ⟨G22, 0, none⟩), .int .i64 0] Try.func24 (by kernel_rfl) (by rfl) rfl ?_
                      replace HS := (((HS.front 2 rfl).front 2 rfl).front 2 rfl)
                      refine (nTake_yes (i := 0) HS hf (by omega)).mono ?_
                      clear HS
                      rintro e w96 ⟨v95, rfl, HS⟩
                      obtain ⟨A97, c98, hv99, hcp100, -⟩ := row_reads (HS.get (.head _))
                      subst hv99
                      refine ⟨_, rfl, ?_⟩
                      refine p_run (l' := _) _ (x_move (.tuple [.slice A97 bb.length c98, .int .i64 0].toArray) rfl rfl) rfl ?_
                      refine p_run (l' := [.slice (some ad) l0.length c0, .int .i64 tt, undef, undef, uq70.1, .pointer (some ⟨G22, 0, none⟩), undef, u7, .int .i64 (j : Int), .slice B bb.length cB, uq70.2.2.2.1, uq70.2.2.2.2.1, .bool true, .bool false, .slice (some ad) l0.length c0, .int .i64 (l0.length : Int), .bool false, .bool false, .int .i64 tt, .bool false, .bool false, .bool false, .int .i64 tt, .bool false, .bool false, .pointer (some ⟨G22, 0, none⟩), .slice (some ad) l0.length c0, .int .i64 (l0.length : Int), .int .i64 (l0.length : Int), .bool (decide ((l0.length : Int) < (l0.length : Int))), u30, u31, u32, u33, u34, u35, u36, u37, u38, u39, .slice (some ad) l0.length c0, .int .i64 (l0.length : Int), .int .i64 (j : Int), .bool (decide ((j : Int) < (l0.length : Int))), .int .i64 (j : Int), .pointer (some ((ad).add (j * 1))), .slice B bb.length cB, .tuple [.slice A97 bb.length c98, .int .i64 0].toArray, .pointer (some ⟨G22, 0, none⟩), .tuple [.slice A97 bb.length c98, .int .i64 0].toArray, .slice A97 bb.length c98, uq72.2.1, uq72.2.2.1, uq72.2.2.2.1, uq72.2.2.2.2.1, uq72.2.2.2.2.2, uq73.1, uq73.2.1, uq73.2.2.1, uq73.2.2.2.1, uq73.2.2.2.2.1, uq73.2.2.2.2.2, uq74.1, uq74.2.1, uq74.2.2.1, uq74.2.2.2, undef, undef, undef, undef, undef, undef, undef, undef]) _ (x_extract (vs := [.slice A97 bb.length c98, .int .i64 0]) 0 (.slice A97 bb.length c98) rfl rfl rfl) rfl ?_
                      refine p_run (l' := _) _ (x_extract (vs := [.slice A97 bb.length c98, .int .i64 0]) 1 (.int .i64 0) rfl rfl rfl) rfl ?_
                      refine p_run (l' := _) _ (x_assign (.slice A97 bb.length c98) rfl rfl) rfl ?_
                      refine p_run (l' := _) _ (x_assign (.int .i64 0) rfl rfl) rfl ?_
                      refine wpList_nil ?_
                      refine fr_at (l' := [.slice (some ad) l0.length c0, .int .i64 tt, undef, undef, uq70.1, .pointer (some ⟨G22, 0, none⟩), undef, u7, .int .i64 (j : Int), .slice B bb.length cB, .slice A97 bb.length c98, .int .i64 0, .bool true, .bool false, .slice (some ad) l0.length c0, .int .i64 (l0.length : Int), .bool false, .bool false, .int .i64 tt, .bool false, .bool false, .bool false, .int .i64 tt, .bool false, .bool false, .pointer (some ⟨G22, 0, none⟩), .slice (some ad) l0.length c0, .int .i64 (l0.length : Int), .int .i64 (l0.length : Int), .bool (decide ((l0.length : Int) < (l0.length : Int))), u30, u31, u32, u33, u34, u35, u36, u37, u38, u39, .slice (some ad) l0.length c0, .int .i64 (l0.length : Int), .int .i64 (j : Int), .bool (decide ((j : Int) < (l0.length : Int))), .int .i64 (j : Int), .pointer (some ((ad).add (j * 1))), .slice B bb.length cB, .tuple [.slice A97 bb.length c98, .int .i64 0].toArray, .pointer (some ⟨G22, 0, none⟩), .tuple [.slice A97 bb.length c98, .int .i64 0].toArray, .slice A97 bb.length c98, .int .i64 0, uq72.2.2.1, uq72.2.2.2.1, uq72.2.2.2.2.1, uq72.2.2.2.2.2, uq73.1, uq73.2.1, uq73.2.2.1, uq73.2.2.2.1, uq73.2.2.2.2.1, uq73.2.2.2.2.2, uq74.1, uq74.2.1, uq74.2.2.1, uq74.2.2.2, undef, undef, undef, undef, undef, undef, undef, undef]) rfl ?_
                      refine hK92 _ _ ?_
                      refine wp_seq_k (fun K101 hK102 => ?_)
                      refine wp_seq_k (fun K103 hK104 => ?_)
                      refine c_region (fun ops106 hops105 => ?_)
                      clear hops105
                      refine p_run (l' := _) _ (x_move (.int .i64 (j : Int)) rfl rfl) rfl ?_
                      refine p_run (l' := _) _ (x_cmp (k := .i64) (m := (j : Int)) (n := 64) .geq false rfl rfl rfl (decide_eq_false (by omega)) rfl) rfl ?_
                      refine wpList_nil ?_
                      refine fr_at (l' := [.slice (some ad) l0.length c0, .int .i64 tt, undef, undef, uq70.1, .pointer (some ⟨G22, 0, none⟩), undef, u7, .int .i64 (j : Int), .slice B bb.length cB, .slice A97 bb.length c98, .int .i64 0, .bool true, .bool false, .slice (some ad) l0.length c0, .int .i64 (l0.length : Int), .bool false, .bool false, .int .i64 tt, .bool false, .bool false, .bool false, .int .i64 tt, .bool false, .bool false, .pointer (some ⟨G22, 0, none⟩), .slice (some ad) l0.length c0, .int .i64 (l0.length : Int), .int .i64 (l0.length : Int), .bool (decide ((l0.length : Int) < (l0.length : Int))), u30, u31, u32, u33, u34, u35, u36, u37, u38, u39, .slice (some ad) l0.length c0, .int .i64 (l0.length : Int), .int .i64 (j : Int), .bool (decide ((j : Int) < (l0.length : Int))), .int .i64 (j : Int), .pointer (some ((ad).add (j * 1))), .slice B bb.length cB, .tuple [.slice A97 bb.length c98, .int .i64 0].toArray, .pointer (some ⟨G22, 0, none⟩), .tuple [.slice A97 bb.length c98, .int .i64 0].toArray, .slice A97 bb.length c98, .int .i64 0, .int .i64 (j : Int), .bool false, uq72.2.2.2.2.1, uq72.2.2.2.2.2, uq73.1, uq73.2.1, uq73.2.2.1, uq73.2.2.2.1, uq73.2.2.2.2.1, uq73.2.2.2.2.2, uq74.1, uq74.2.1, uq74.2.2.1, uq74.2.2.2, undef, undef, undef, undef, undef, undef, undef, undef]) rfl ?_
                      refine hK104 _ _ ?_
                      refine c_false rfl ?_
                      refine wp_skip ?_
                      refine hK102 _ _ ?_
                      refine wp_seq_k (fun K107 hK108 => ?_)
                      refine c_region (fun ops110 hops109 => ?_)
                      refine p_run (l' := _) _ (x_move (.int .i64 0) rfl rfl) rfl ?_
                      refine p_run (l' := _) _ (x_cmp (k := .i64) (m := 0) (n := 0) .neq false rfl rfl rfl (by decide) rfl) rfl ?_
                      refine p_run (l' := _) _ (x_move (.bool false) rfl rfl) rfl ?_
                      refine p_on rfl (by rw [hops109]; rfl) ?_
                      refine p_run (l' := [.slice (some ad) l0.length c0, .int .i64 tt, undef, undef, uq70.1, .pointer (some ⟨G22, 0, none⟩), undef, u7, .int .i64 (j : Int), .slice B bb.length cB, .slice A97 bb.length c98, .int .i64 0, .bool true, .bool false, .slice (some ad) l0.length c0, .int .i64 (l0.length : Int), .bool false, .bool false, .int .i64 tt, .bool false, .bool false, .bool false, .int .i64 tt, .bool false, .bool false, .pointer (some ⟨G22, 0, none⟩), .slice (some ad) l0.length c0, .int .i64 (l0.length : Int), .int .i64 (l0.length : Int), .bool (decide ((l0.length : Int) < (l0.length : Int))), u30, u31, u32, u33, u34, u35, u36, u37, u38, u39, .slice (some ad) l0.length c0, .int .i64 (l0.length : Int), .int .i64 (j : Int), .bool (decide ((j : Int) < (l0.length : Int))), .int .i64 (j : Int), .pointer (some ((ad).add (j * 1))), .slice B bb.length cB, .tuple [.slice A97 bb.length c98, .int .i64 0].toArray, .pointer (some ⟨G22, 0, none⟩), .tuple [.slice A97 bb.length c98, .int .i64 0].toArray, .slice A97 bb.length c98, .int .i64 0, .int .i64 (j : Int), .bool false, uq72.2.2.2.2.1, uq72.2.2.2.2.2, .int .i64 0, .bool false, .bool false, .slice A97 bb.length c98, uq73.2.2.2.2.1, uq73.2.2.2.2.2, uq74.1, uq74.2.1, uq74.2.2.1, uq74.2.2.2, undef, undef, undef, undef, undef, undef, undef, undef]) _ (x_move (.slice A97 bb.length c98) rfl rfl) rfl ?_
                      refine p_on rfl (by rw [hops109]; rfl) ?_
                      refine p_run (l' := _) _ (x_str (xs := bb) (row_rd (HS.get (.head _))).2.2 rfl rfl rfl) rfl ?_
                      refine p_on rfl (by rw [hops109]; rfl) ?_
                      refine p_run (l' := _) _ (x_move (.slice B bb.length cB) rfl rfl) rfl ?_
                      refine p_on rfl (by rw [hops109]; rfl) ?_
                      refine p_run (l' := _) _ (x_str (xs := bb) (hsl.below HS.belowOf).rd rfl rfl rfl) rfl ?_
                      refine p_on rfl (by rw [hops109]; rfl) ?_
                      refine p_run (l' := [.slice (some ad) l0.length c0, .int .i64 tt, undef, undef, uq70.1, .pointer (some ⟨G22, 0, none⟩), undef, u7, .int .i64 (j : Int), .slice B bb.length cB, .slice A97 bb.length c98, .int .i64 0, .bool true, .bool false, .slice (some ad) l0.length c0, .int .i64 (l0.length : Int), .bool false, .bool false, .int .i64 tt, .bool false, .bool false, .bool false, .int .i64 tt, .bool false, .bool false, .pointer (some ⟨G22, 0, none⟩), .slice (some ad) l0.length c0, .int .i64 (l0.length : Int), .int .i64 (l0.length : Int), .bool (decide ((l0.length : Int) < (l0.length : Int))), u30, u31, u32, u33, u34, u35, u36, u37, u38, u39, .slice (some ad) l0.length c0, .int .i64 (l0.length : Int), .int .i64 (j : Int), .bool (decide ((j : Int) < (l0.length : Int))), .int .i64 (j : Int), .pointer (some ((ad).add (j * 1))), .slice B bb.length cB, .tuple [.slice A97 bb.length c98, .int .i64 0].toArray, .pointer (some ⟨G22, 0, none⟩), .tuple [.slice A97 bb.length c98, .int .i64 0].toArray, .slice A97 bb.length c98, .int .i64 0, .int .i64 (j : Int), .bool false, uq72.2.2.2.2.1, uq72.2.2.2.2.2, .int .i64 0, .bool false, .bool false, .slice A97 bb.length c98, .string (strB bb), .slice B bb.length cB, .string (strB bb), .bool false, uq74.2.2.1, uq74.2.2.2, undef, undef, undef, undef, undef, undef, undef, undef]) _ (x_streq .neq (strB bb) (strB bb) false rfl rfl rfl (str_no rfl) rfl) rfl ?_
                      refine p_run (l' := _) _ (x_pick false (.bool true) (.bool false) (.bool false) rfl rfl rfl rfl rfl) rfl ?_
                      clear hops109
                      refine wpList_nil ?_
                      refine fr_at (l' := [.slice (some ad) l0.length c0, .int .i64 tt, undef, undef, uq70.1, .pointer (some ⟨G22, 0, none⟩), undef, u7, .int .i64 (j : Int), .slice B bb.length cB, .slice A97 bb.length c98, .int .i64 0, .bool true, .bool false, .slice (some ad) l0.length c0, .int .i64 (l0.length : Int), .bool false, .bool false, .int .i64 tt, .bool false, .bool false, .bool false, .int .i64 tt, .bool false, .bool false, .pointer (some ⟨G22, 0, none⟩), .slice (some ad) l0.length c0, .int .i64 (l0.length : Int), .int .i64 (l0.length : Int), .bool (decide ((l0.length : Int) < (l0.length : Int))), u30, u31, u32, u33, u34, u35, u36, u37, u38, u39, .slice (some ad) l0.length c0, .int .i64 (l0.length : Int), .int .i64 (j : Int), .bool (decide ((j : Int) < (l0.length : Int))), .int .i64 (j : Int), .pointer (some ((ad).add (j * 1))), .slice B bb.length cB, .tuple [.slice A97 bb.length c98, .int .i64 0].toArray, .pointer (some ⟨G22, 0, none⟩), .tuple [.slice A97 bb.length c98, .int .i64 0].toArray, .slice A97 bb.length c98, .int .i64 0, .int .i64 (j : Int), .bool false, uq72.2.2.2.2.1, uq72.2.2.2.2.2, .int .i64 0, .bool false, .bool false, .slice A97 bb.length c98, .string (strB bb), .slice B bb.length cB, .string (strB bb), .bool false, .bool false, uq74.2.2.2, undef, undef, undef, undef, undef, undef, undef, undef]) rfl ?_
                      refine hK108 _ _ ?_
                      refine c_false rfl ?_
                      refine wp_skip ?_
                      refine hK86 _ _ ?_
                      refine c_region (fun ops112 hops111 => ?_)
                      clear hops111
                      refine p_run (l' := _) _ (x_arith (k := .i64) (m := (j : Int)) (n := 1) .add (((j + 1 : Nat) : Int)) rfl rfl rfl (show IntKind.i64.wrap ((j : Int) + 1) = ((j + 1 : Nat) : Int) from ((wr64 (by omega)).trans (by omega))) rfl) rfl ?_
                      refine p_run (l' := _) _ (x_move (.int .i64 ((j + 1 : Nat) : Int)) rfl rfl) rfl ?_
                      refine wpList_nil ?_
                      refine fr_at (l' := [.slice (some ad) l0.length c0, .int .i64 tt, undef, undef, uq70.1, .pointer (some ⟨G22, 0, none⟩), undef, u7, .int .i64 (j : Int), .slice B bb.length cB, .slice A97 bb.length c98, .int .i64 0, .bool true, .bool false, .slice (some ad) l0.length c0, .int .i64 (l0.length : Int), .bool false, .bool false, .int .i64 tt, .bool false, .bool false, .bool false, .int .i64 tt, .bool false, .bool false, .pointer (some ⟨G22, 0, none⟩), .slice (some ad) l0.length c0, .int .i64 (l0.length : Int), .int .i64 (l0.length : Int), .bool (decide ((l0.length : Int) < (l0.length : Int))), u30, u31, u32, u33, u34, u35, u36, u37, u38, u39, .slice (some ad) l0.length c0, .int .i64 (l0.length : Int), .int .i64 ((j + 1 : Nat) : Int), .bool (decide ((j : Int) < (l0.length : Int))), .int .i64 (j : Int), .pointer (some ((ad).add (j * 1))), .slice B bb.length cB, .tuple [.slice A97 bb.length c98, .int .i64 0].toArray, .pointer (some ⟨G22, 0, none⟩), .tuple [.slice A97 bb.length c98, .int .i64 0].toArray, .slice A97 bb.length c98, .int .i64 0, .int .i64 (j : Int), .bool false, uq72.2.2.2.2.1, uq72.2.2.2.2.2, .int .i64 0, .bool false, .bool false, .slice A97 bb.length c98, .string (strB bb), .slice B bb.length cB, .string (strB bb), .bool false, .bool false, .int .i64 ((j + 1 : Nat) : Int), undef, undef, undef, undef, undef, undef, undef, undef]) rfl ?_
                      refine hJ76 (j + 1, v95, (fs.eraseIdx 0)) _ _ ?_ ?_
                      · show l0.length - (j + 1) < l0.length - j; omega
                      · exact ⟨(uq70.1, .int .i64 (j : Int), .slice B bb.length cB, .slice A97 bb.length c98, .int .i64 0, .bool (decide ((j : Int) < (l0.length : Int)))), (.int .i64 (j : Int), .pointer (some ((ad).add (j * 1))), .slice B bb.length cB, .tuple [.slice A97 bb.length c98, .int .i64 0].toArray, .pointer (some ⟨G22, 0, none⟩), .tuple [.slice A97 bb.length c98, .int .i64 0].toArray), (.slice A97 bb.length c98, .int .i64 0, .int .i64 (j : Int), .bool false, uq72.2.2.2.2.1, uq72.2.2.2.2.2), (.int .i64 0, .bool false, .bool false, .slice A97 bb.length c98, .string (strB bb), .slice B bb.length cB), (.string (strB bb), .bool false, .bool false, .int .i64 ((j + 1 : Nat) : Int)), rfl, (((HS.drop.front 2 rfl).front 2 rfl).front 2 rfl), on_take hO⟩
                    · skip
                      have hf0 : fs.length = 0 := on_none hO (.inl (by omega))
                      refine c_region (fun ops114 hops113 => ?_)
                      clear hops113
                      refine p_run (l' := _) _ (x_move (.pointer (some ⟨G22, 0, none⟩)) rfl rfl) rfl ?_
                      refine w_call [.pointer (some ⟨G22, 0, none⟩), .int .i64 0] Try.func24 (by kernel_rfl) (by rfl) rfl ?_
                      replace HS := (((HS.front 2 rfl).front 2 rfl).front 2 rfl)
                      refine (nTake_no HS 0 (th_none hf0)).mono ?_
                      rintro e w' ⟨rfl, rfl⟩
                      refine ⟨_, rfl, ?_⟩
                      refine p_run (l' := _) _ (x_move (.tuple [.slice none 0 0, .int .i64 191].toArray) rfl rfl) rfl ?_
                      refine p_run (l' := [.slice (some ad) l0.length c0, .int .i64 tt, undef, undef, uq70.1, .pointer (some ⟨G22, 0, none⟩), undef, u7, .int .i64 (j : Int), .slice B bb.length cB, uq70.2.2.2.1, uq70.2.2.2.2.1, .bool true, .bool false, .slice (some ad) l0.length c0, .int .i64 (l0.length : Int), .bool false, .bool false, .int .i64 tt, .bool false, .bool false, .bool false, .int .i64 tt, .bool false, .bool false, .pointer (some ⟨G22, 0, none⟩), .slice (some ad) l0.length c0, .int .i64 (l0.length : Int), .int .i64 (l0.length : Int), .bool (decide ((l0.length : Int) < (l0.length : Int))), u30, u31, u32, u33, u34, u35, u36, u37, u38, u39, .slice (some ad) l0.length c0, .int .i64 (l0.length : Int), .int .i64 (j : Int), .bool (decide ((j : Int) < (l0.length : Int))), .int .i64 (j : Int), .pointer (some ((ad).add (j * 1))), .slice B bb.length cB, .tuple [.slice none 0 0, .int .i64 191].toArray, .pointer (some ⟨G22, 0, none⟩), .tuple [.slice none 0 0, .int .i64 191].toArray, .slice none 0 0, uq72.2.1, uq72.2.2.1, uq72.2.2.2.1, uq72.2.2.2.2.1, uq72.2.2.2.2.2, uq73.1, uq73.2.1, uq73.2.2.1, uq73.2.2.2.1, uq73.2.2.2.2.1, uq73.2.2.2.2.2, uq74.1, uq74.2.1, uq74.2.2.1, uq74.2.2.2, undef, undef, undef, undef, undef, undef, undef, undef]) _ (x_extract (vs := [.slice none 0 0, .int .i64 191]) 0 (.slice none 0 0) rfl rfl rfl) rfl ?_
                      refine p_run (l' := _) _ (x_extract (vs := [.slice none 0 0, .int .i64 191]) 1 (.int .i64 191) rfl rfl rfl) rfl ?_
                      refine p_run (l' := _) _ (x_assign (.slice none 0 0) rfl rfl) rfl ?_
                      refine p_run (l' := _) _ (x_assign (.int .i64 191) rfl rfl) rfl ?_
                      refine wpList_nil ?_
                      refine fr_at (l' := [.slice (some ad) l0.length c0, .int .i64 tt, undef, undef, uq70.1, .pointer (some ⟨G22, 0, none⟩), undef, u7, .int .i64 (j : Int), .slice B bb.length cB, .slice none 0 0, .int .i64 191, .bool true, .bool false, .slice (some ad) l0.length c0, .int .i64 (l0.length : Int), .bool false, .bool false, .int .i64 tt, .bool false, .bool false, .bool false, .int .i64 tt, .bool false, .bool false, .pointer (some ⟨G22, 0, none⟩), .slice (some ad) l0.length c0, .int .i64 (l0.length : Int), .int .i64 (l0.length : Int), .bool (decide ((l0.length : Int) < (l0.length : Int))), u30, u31, u32, u33, u34, u35, u36, u37, u38, u39, .slice (some ad) l0.length c0, .int .i64 (l0.length : Int), .int .i64 (j : Int), .bool (decide ((j : Int) < (l0.length : Int))), .int .i64 (j : Int), .pointer (some ((ad).add (j * 1))), .slice B bb.length cB, .tuple [.slice none 0 0, .int .i64 191].toArray, .pointer (some ⟨G22, 0, none⟩), .tuple [.slice none 0 0, .int .i64 191].toArray, .slice none 0 0, .int .i64 191, uq72.2.2.1, uq72.2.2.2.1, uq72.2.2.2.2.1, uq72.2.2.2.2.2, uq73.1, uq73.2.1, uq73.2.2.1, uq73.2.2.2.1, uq73.2.2.2.2.1, uq73.2.2.2.2.2, uq74.1, uq74.2.1, uq74.2.2.1, uq74.2.2.2, undef, undef, undef, undef, undef, undef, undef, undef]) rfl ?_
                      refine hK92 _ _ ?_
                      refine wp_seq_k (fun K115 hK116 => ?_)
                      refine wp_seq_k (fun K117 hK118 => ?_)
                      refine c_region (fun ops120 hops119 => ?_)
                      clear hops119
                      refine p_run (l' := _) _ (x_move (.int .i64 (j : Int)) rfl rfl) rfl ?_
                      refine p_run (l' := _) _ (x_cmp (k := .i64) (m := (j : Int)) (n := 64) .geq true rfl rfl rfl (decide_eq_true (by omega)) rfl) rfl ?_
                      refine wpList_nil ?_
                      refine fr_at (l' := [.slice (some ad) l0.length c0, .int .i64 tt, undef, undef, uq70.1, .pointer (some ⟨G22, 0, none⟩), undef, u7, .int .i64 (j : Int), .slice B bb.length cB, .slice none 0 0, .int .i64 191, .bool true, .bool false, .slice (some ad) l0.length c0, .int .i64 (l0.length : Int), .bool false, .bool false, .int .i64 tt, .bool false, .bool false, .bool false, .int .i64 tt, .bool false, .bool false, .pointer (some ⟨G22, 0, none⟩), .slice (some ad) l0.length c0, .int .i64 (l0.length : Int), .int .i64 (l0.length : Int), .bool (decide ((l0.length : Int) < (l0.length : Int))), u30, u31, u32, u33, u34, u35, u36, u37, u38, u39, .slice (some ad) l0.length c0, .int .i64 (l0.length : Int), .int .i64 (j : Int), .bool (decide ((j : Int) < (l0.length : Int))), .int .i64 (j : Int), .pointer (some ((ad).add (j * 1))), .slice B bb.length cB, .tuple [.slice none 0 0, .int .i64 191].toArray, .pointer (some ⟨G22, 0, none⟩), .tuple [.slice none 0 0, .int .i64 191].toArray, .slice none 0 0, .int .i64 191, .int .i64 (j : Int), .bool true, uq72.2.2.2.2.1, uq72.2.2.2.2.2, uq73.1, uq73.2.1, uq73.2.2.1, uq73.2.2.2.1, uq73.2.2.2.2.1, uq73.2.2.2.2.2, uq74.1, uq74.2.1, uq74.2.2.1, uq74.2.2.2, undef, undef, undef, undef, undef, undef, undef, undef]) rfl ?_
                      refine hK118 _ _ ?_
                      refine c_true rfl ?_
                      refine wp_seq_k (fun K121 hK122 => ?_)
                      refine wp_seq_k (fun K123 hK124 => ?_)
                      refine c_region (fun ops126 hops125 => ?_)
                      clear hops125
                      refine p_run (l' := _) _ (x_move (.int .i64 191) rfl rfl) rfl ?_
                      refine p_run (l' := _) _ (x_cmp (k := .i64) (m := 191) (n := 191) .neq false rfl rfl rfl (by decide) rfl) rfl ?_
                      refine wpList_nil ?_
                      refine fr_at (l' := [.slice (some ad) l0.length c0, .int .i64 tt, undef, undef, uq70.1, .pointer (some ⟨G22, 0, none⟩), undef, u7, .int .i64 (j : Int), .slice B bb.length cB, .slice none 0 0, .int .i64 191, .bool true, .bool false, .slice (some ad) l0.length c0, .int .i64 (l0.length : Int), .bool false, .bool false, .int .i64 tt, .bool false, .bool false, .bool false, .int .i64 tt, .bool false, .bool false, .pointer (some ⟨G22, 0, none⟩), .slice (some ad) l0.length c0, .int .i64 (l0.length : Int), .int .i64 (l0.length : Int), .bool (decide ((l0.length : Int) < (l0.length : Int))), u30, u31, u32, u33, u34, u35, u36, u37, u38, u39, .slice (some ad) l0.length c0, .int .i64 (l0.length : Int), .int .i64 (j : Int), .bool (decide ((j : Int) < (l0.length : Int))), .int .i64 (j : Int), .pointer (some ((ad).add (j * 1))), .slice B bb.length cB, .tuple [.slice none 0 0, .int .i64 191].toArray, .pointer (some ⟨G22, 0, none⟩), .tuple [.slice none 0 0, .int .i64 191].toArray, .slice none 0 0, .int .i64 191, .int .i64 (j : Int), .bool true, .int .i64 191, .bool false, uq73.1, uq73.2.1, uq73.2.2.1, uq73.2.2.2.1, uq73.2.2.2.2.1, uq73.2.2.2.2.2, uq74.1, uq74.2.1, uq74.2.2.1, uq74.2.2.2, undef, undef, undef, undef, undef, undef, undef, undef]) rfl ?_
                      refine hK124 _ _ ?_
                      refine c_false rfl ?_
                      refine wp_skip ?_
                      refine hK122 _ _ ?_
                      refine wp_exit ?_
                      refine hK86 _ _ ?_
                      refine c_region (fun ops128 hops127 => ?_)
                      clear hops127
                      refine p_run (l' := _) _ (x_arith (k := .i64) (m := (j : Int)) (n := 1) .add (((j + 1 : Nat) : Int)) rfl rfl rfl (show IntKind.i64.wrap ((j : Int) + 1) = ((j + 1 : Nat) : Int) from ((wr64 (by omega)).trans (by omega))) rfl) rfl ?_
                      refine p_run (l' := _) _ (x_move (.int .i64 ((j + 1 : Nat) : Int)) rfl rfl) rfl ?_
                      refine wpList_nil ?_
                      refine fr_at (l' := [.slice (some ad) l0.length c0, .int .i64 tt, undef, undef, uq70.1, .pointer (some ⟨G22, 0, none⟩), undef, u7, .int .i64 (j : Int), .slice B bb.length cB, .slice none 0 0, .int .i64 191, .bool true, .bool false, .slice (some ad) l0.length c0, .int .i64 (l0.length : Int), .bool false, .bool false, .int .i64 tt, .bool false, .bool false, .bool false, .int .i64 tt, .bool false, .bool false, .pointer (some ⟨G22, 0, none⟩), .slice (some ad) l0.length c0, .int .i64 (l0.length : Int), .int .i64 (l0.length : Int), .bool (decide ((l0.length : Int) < (l0.length : Int))), u30, u31, u32, u33, u34, u35, u36, u37, u38, u39, .slice (some ad) l0.length c0, .int .i64 (l0.length : Int), .int .i64 ((j + 1 : Nat) : Int), .bool (decide ((j : Int) < (l0.length : Int))), .int .i64 (j : Int), .pointer (some ((ad).add (j * 1))), .slice B bb.length cB, .tuple [.slice none 0 0, .int .i64 191].toArray, .pointer (some ⟨G22, 0, none⟩), .tuple [.slice none 0 0, .int .i64 191].toArray, .slice none 0 0, .int .i64 191, .int .i64 (j : Int), .bool true, .int .i64 191, .bool false, uq73.1, uq73.2.1, uq73.2.2.1, uq73.2.2.2.1, uq73.2.2.2.2.1, uq73.2.2.2.2.2, uq74.1, uq74.2.1, uq74.2.2.1, .int .i64 ((j + 1 : Nat) : Int), undef, undef, undef, undef, undef, undef, undef, undef]) rfl ?_
                      refine hJ76 (j + 1, v, fs) _ _ ?_ ?_
                      · show l0.length - (j + 1) < l0.length - j; omega
                      · exact ⟨(uq70.1, .int .i64 (j : Int), .slice B bb.length cB, .slice none 0 0, .int .i64 191, .bool (decide ((j : Int) < (l0.length : Int)))), (.int .i64 (j : Int), .pointer (some ((ad).add (j * 1))), .slice B bb.length cB, .tuple [.slice none 0 0, .int .i64 191].toArray, .pointer (some ⟨G22, 0, none⟩), .tuple [.slice none 0 0, .int .i64 191].toArray), (.slice none 0 0, .int .i64 191, .int .i64 (j : Int), .bool true, .int .i64 191, .bool false), uq73, (uq74.1, uq74.2.1, uq74.2.2.1, .int .i64 ((j + 1 : Nat) : Int)), rfl, (((HS.front 2 rfl).front 2 rfl).front 2 rfl), (by rw [List.drop_of_length_le (by rw [List.length_take]; omega)]; exact List.eq_nil_of_length_eq_zero (by rw [toN_length]; exact hf0))⟩
                  · have hf0 : fs.length = 0 := on_none hO (by have := of_decide_eq_false hc84; omega)
                    refine wp_exit ?_
                    refine hK65 _ _ ?_
                    refine wp_seq_k (fun K129 hK130 => ?_)
                    refine c_region (fun ops132 hops131 => ?_)
                    refine p_run (l' := _) _ (x_move (.pointer (some ⟨G22, 0, none⟩)) rfl rfl) rfl ?_
                    refine w_call [.pointer (some ⟨G22, 0, none⟩)] Try.func25 (by kernel_rfl) (by rfl) rfl ?_
                    replace HS := (((HS.front 2 rfl).front 2 rfl).front 2 rfl)
                    refine (nLen_any HS).mono ?_
                    rintro e w' ⟨rfl, rfl⟩
                    refine ⟨_, rfl, ?_⟩
                    refine p_run (l' := _) _ (x_cmp (k := .i64) (m := (fs.length : Int)) (n := 0) .eql true rfl rfl rfl (by unfold cmpB; rw [hf0]; rfl) rfl) rfl ?_
                    refine p_run (l' := [.slice A0 l0.length c0, .int .i64 tt, undef, undef, uq70.1, .pointer (some ⟨G22, 0, none⟩), undef, u7, uq70.2.1, uq70.2.2.1, uq70.2.2.2.1, uq70.2.2.2.2.1, .bool true, .bool false, .slice A0 l0.length c0, .int .i64 (l0.length : Int), .bool false, .bool false, .int .i64 tt, .bool false, .bool false, .bool false, .int .i64 tt, .bool false, .bool false, .pointer (some ⟨G22, 0, none⟩), .slice A0 l0.length c0, .int .i64 (l0.length : Int), .int .i64 (l0.length : Int), .bool (decide ((l0.length : Int) < (l0.length : Int))), u30, u31, u32, u33, u34, u35, u36, u37, u38, u39, .slice A0 l0.length c0, .int .i64 (l0.length : Int), .int .i64 (j : Int), .bool (decide ((j : Int) < (l0.length : Int))), uq71.1, uq71.2.1, uq71.2.2.1, uq71.2.2.2.1, uq71.2.2.2.2.1, uq71.2.2.2.2.2, uq72.1, uq72.2.1, uq72.2.2.1, uq72.2.2.2.1, uq72.2.2.2.2.1, uq72.2.2.2.2.2, uq73.1, uq73.2.1, uq73.2.2.1, uq73.2.2.2.1, uq73.2.2.2.2.1, uq73.2.2.2.2.2, uq74.1, uq74.2.1, uq74.2.2.1, uq74.2.2.2, .pointer (some ⟨G22, 0, none⟩), .int .i64 (fs.length : Int), .bool true, .bool true, undef, undef, undef, undef]) _ (x_move (.bool true) rfl rfl) rfl ?_
                    refine p_on rfl (by rw [hops131]; rfl) ?_
                    refine p_run (l' := _) _ (x_move (.pointer (some ⟨G22, 0, none⟩)) rfl rfl) rfl ?_
                    refine p_on rfl (by rw [hops131]; rfl) ?_
                    refine w_call [.pointer (some ⟨G22, 0, none⟩)] Try.func26 (by kernel_rfl) (by rfl) rfl ?_
                    replace HS := (((HS.front 2 rfl).front 2 rfl).front 2 rfl)
                    refine (nClear_any HS).mono ?_
                    clear HS
                    rintro e w133 ⟨rfl, HS⟩
                    refine ⟨_, rfl, ?_⟩
                    refine p_on rfl (by rw [hops131]; rfl) ?_
                    refine p_run (l' := _) _ (x_cmp (k := .i64) (m := (fs.length : Int)) (n := 0) .eql true rfl rfl rfl (by unfold cmpB; rw [hf0]; rfl) rfl) rfl ?_
                    refine p_run (l' := [.slice A0 l0.length c0, .int .i64 tt, undef, undef, uq70.1, .pointer (some ⟨G22, 0, none⟩), undef, u7, uq70.2.1, uq70.2.2.1, uq70.2.2.2.1, uq70.2.2.2.2.1, .bool true, .bool false, .slice A0 l0.length c0, .int .i64 (l0.length : Int), .bool false, .bool false, .int .i64 tt, .bool false, .bool false, .bool false, .int .i64 tt, .bool false, .bool false, .pointer (some ⟨G22, 0, none⟩), .slice A0 l0.length c0, .int .i64 (l0.length : Int), .int .i64 (l0.length : Int), .bool (decide ((l0.length : Int) < (l0.length : Int))), u30, u31, u32, u33, u34, u35, u36, u37, u38, u39, .slice A0 l0.length c0, .int .i64 (l0.length : Int), .int .i64 (j : Int), .bool (decide ((j : Int) < (l0.length : Int))), uq71.1, uq71.2.1, uq71.2.2.1, uq71.2.2.2.1, uq71.2.2.2.2.1, uq71.2.2.2.2.2, uq72.1, uq72.2.1, uq72.2.2.1, uq72.2.2.2.1, uq72.2.2.2.2.1, uq72.2.2.2.2.2, uq73.1, uq73.2.1, uq73.2.2.1, uq73.2.2.2.1, uq73.2.2.2.2.1, uq73.2.2.2.2.2, uq74.1, uq74.2.1, uq74.2.2.1, uq74.2.2.2, .pointer (some ⟨G22, 0, none⟩), .int .i64 (fs.length : Int), .bool true, .bool true, .pointer (some ⟨G22, 0, none⟩), .int .i64 (fs.length : Int), .bool true, .bool true]) _ (x_pick true (.bool true) (.bool false) (.bool true) rfl rfl rfl rfl rfl) rfl ?_
                    refine p_run (l' := _) _ (x_assign (.bool true) rfl rfl) rfl ?_
                    clear hops131
                    refine wpList_nil ?_
                    refine fr_at (l' := [.slice A0 l0.length c0, .int .i64 tt, undef, undef, .bool true, .pointer (some ⟨G22, 0, none⟩), undef, u7, uq70.2.1, uq70.2.2.1, uq70.2.2.2.1, uq70.2.2.2.2.1, .bool true, .bool false, .slice A0 l0.length c0, .int .i64 (l0.length : Int), .bool false, .bool false, .int .i64 tt, .bool false, .bool false, .bool false, .int .i64 tt, .bool false, .bool false, .pointer (some ⟨G22, 0, none⟩), .slice A0 l0.length c0, .int .i64 (l0.length : Int), .int .i64 (l0.length : Int), .bool (decide ((l0.length : Int) < (l0.length : Int))), u30, u31, u32, u33, u34, u35, u36, u37, u38, u39, .slice A0 l0.length c0, .int .i64 (l0.length : Int), .int .i64 (j : Int), .bool (decide ((j : Int) < (l0.length : Int))), uq71.1, uq71.2.1, uq71.2.2.1, uq71.2.2.2.1, uq71.2.2.2.2.1, uq71.2.2.2.2.2, uq72.1, uq72.2.1, uq72.2.2.1, uq72.2.2.2.1, uq72.2.2.2.2.1, uq72.2.2.2.2.2, uq73.1, uq73.2.1, uq73.2.2.1, uq73.2.2.2.1, uq73.2.2.2.2.1, uq73.2.2.2.2.2, uq74.1, uq74.2.1, uq74.2.2.1, uq74.2.2.2, .pointer (some ⟨G22, 0, none⟩), .int .i64 (fs.length : Int), .bool true, .bool true, .pointer (some ⟨G22, 0, none⟩), .int .i64 (fs.length : Int), .bool true, .bool true]) rfl ?_
                    refine hK130 _ _ ?_
                    refine wp_ret ?_
                    try simp only [Exit.inBlock, Exit.then]
                    refine c_ret (.bool true) (r_tmp rfl rfl) ?_
                    exact ⟨rfl, HS.belowOf⟩

theorem order_any (A0 : Option Addr) (c0 : Nat) (l0 : List (List UInt8)) (tt : Int) (w : World) (hr0 : kBN.C w A0 l0.length l0) : Calls Try.prog 9 #[.slice A0 l0.length c0, .int .i64 tt] w fun e w' => e = .returned (.bool true) ∧ Below w.heap.size w w' := order_law w A0 c0 l0 hr0 tt
end Go.Proofs.Ytckfcnclekjjdaa
