/- The document's disk: New. -/
import Derived.Test.YtjholgfaipfmbaaRd5
set_option linter.unusedVariables false
set_option linter.unusedSimpArgs false
namespace Go.Proofs.Ytjholgfaipfmbaa
open Go.RowKit Go.Proofs.YtjholgfaipfmbaaW.PrintWords Go.Proofs.YtjholgfaipfmbaaW.PrintLast
section
variable {w0 W : World} {F : Nat → Prop} {L : List Res}
def Rk.new (pages : Int) : Rk := { stable := List.replicate (nOf pages) zpg, bad := List.replicate (nOf pages) false, pending := [], counted := false, left := 0, down := false }
theorem nof_step {pages : Int} {m : Nat} (h1 : (m : Int) < pages) (h2 : (m : Int) < 244) : m + 1 ≤ nOf pages := by unfold nOf; split <;> (try split) <;> omega
theorem nof_end {pages : Int} {m : Nat} (hm : m ≤ nOf pages) (h : ¬ (m : Int) < pages ∨ ¬ (m : Int) < 244) : m = nOf pages := by unfold nOf at hm ⊢; split <;> (try split) <;> (simp_all <;> omega)

set_option maxRecDepth 10000 in
set_option maxHeartbeats 1000000 in
theorem rkNew_any (HS : St w0 F W L) (pages : Int) : Calls Try.prog 22 #[.int .i64 pages] W fun e w' => ∃ vs vb, e = .returned (rkV vs vb (.slice none 0 0) (Rk.new pages)) ∧ St w0 F w' (rk vs vb (.slice none 0 0) (Rk.new pages) L) := by
  refine c_enter Try.func22 rfl 27 rfl [.int .i64 pages, undef, undef, undef, undef, undef, undef, undef, undef, undef, undef, undef, undef, undef, undef, undef, undef, undef, undef, undef, undef, undef, undef, undef, undef, undef, undef] rfl ?_
  refine wp_seq_k (fun K1 hK2 => ?_)
  refine c_region (fun ops4 hops3 => ?_)
  clear hops3
  refine St.wAlloc HS (cs := [.slice none 0 0, .slice none 0 0, .slice none 0 0, .bool false, .int .i64 0, .bool false]) (.agg [.slice none 0 0, .slice none 0 0, .slice none 0 0, .bool false, .int .i64 0, .bool false].toArray) (by kernel_rfl) rfl ?_
  clear HS
  intro g5 w6 hg7 HS
  refine wpList_nil ?_
  refine fr_at (l' := [.int .i64 pages, undef, .pointer (some ⟨g5, 0, none⟩), undef, undef, undef, undef, undef, undef, undef, undef, undef, undef, undef, undef, undef, undef, undef, undef, undef, undef, undef, undef, undef, undef, undef, undef]) rfl ?_
  refine hK2 _ _ ?_
  refine wp_seq_k (fun K8 hK9 => ?_)
  refine c_region (fun ops11 hops10 => ?_)
  clear hops10
  refine p_run (l' := _) _ (x_build [.slice none 0 0, .slice none 0 0, .slice none 0 0, .bool false, .int .i64 0, .bool false] rfl (by kernel_rfl)) rfl ?_
  refine St.wAlloc HS (cs := [.slice none 0 0, .slice none 0 0, .slice none 0 0, .bool false, .int .i64 0, .bool false]) (.agg [.slice none 0 0, .slice none 0 0, .slice none 0 0, .bool false, .int .i64 0, .bool false].toArray) (by kernel_rfl) rfl ?_
  clear HS
  intro g12 w13 hg14 HS
  refine St.stores (cs' := [.slice none 0 0, .slice none 0 0, .slice none 0 0, .bool false, .int .i64 0, .bool false]) HS [.slice none 0 0, .slice none 0 0, .slice none 0 0, .bool false, .int .i64 0, .bool false] 6 rfl rfl (by rfl) (by kernel_rfl) rfl (by simp) rfl ?_
  clear HS
  intro w15 HS
  refine wpList_nil ?_
  refine fr_at (l' := [.int .i64 pages, undef, .pointer (some ⟨g5, 0, none⟩), .pointer (some ⟨g12, 0, none⟩), undef, .agg ([.slice none 0 0, .slice none 0 0, .slice none 0 0, .bool false, .int .i64 0, .bool false] : List Value).toArray, undef, undef, undef, undef, undef, undef, undef, undef, undef, undef, undef, undef, undef, undef, undef, undef, undef, undef, undef, undef, undef]) rfl ?_
  refine hK9 _ _ ?_
  refine wp_seq_k (fun K16 hK17 => ?_)
  refine wp_seq_k (fun K18 hK19 => ?_)
  refine c_region (fun ops21 hops20 => ?_)
  clear hops20
  refine p_run (l' := _) _ (x_assign (.int .i64 0) rfl rfl) rfl ?_
  refine wpList_nil ?_
  refine fr_at (l' := [.int .i64 pages, undef, .pointer (some ⟨g5, 0, none⟩), .pointer (some ⟨g12, 0, none⟩), .int .i64 0, .agg ([.slice none 0 0, .slice none 0 0, .slice none 0 0, .bool false, .int .i64 0, .bool false] : List Value).toArray, undef, undef, undef, undef, undef, undef, undef, undef, undef, undef, undef, undef, undef, undef, undef, undef, undef, undef, undef, undef, undef]) rfl ?_
  refine hK19 _ _ ?_
  refine wp_block ?_
  replace HS := (HS.nil (Kd.bool) rfl 4).nil kPg rfl 31
  refine c_loop (ι := Nat × Value × Value) (fun i_ a_ w_ => match i_ with | (m, vs, vb) => ∃ (u6 : Value) (u7 : Value) (u8 : Value) (u9 : Value) (u10 : Value) (u11 : Value) (u12 : Value) (u13 : Value) (u14 : Value) (u15 : Value) (u16 : Value) (u17 : Value) (u18 : Value) (u19 : Value) (u20 : Value) (u21 : Value) (u22 : Value) (u23 : Value) (u24 : Value) (u25 : Value), a_ = fr [.int .i64 pages, undef, .pointer (some ⟨g5, 0, none⟩), .pointer (some ⟨g12, 0, none⟩), .int .i64 (m : Int), .agg ([.slice none 0 0, .slice none 0 0, .slice none 0 0, .bool false, .int .i64 0, .bool false] : List Value).toArray, u6, u7, u8, u9, u10, u11, u12, u13, u14, u15, u16, u17, u18, u19, u20, u21, u22, u23, u24, u25, undef] ∧ St w0 F w_ (row kPg rfl 31 vs (List.replicate m zpg) :: row Kd.bool rfl 4 vb (List.replicate m false) :: blk g12 [vs, vb, .slice none 0 0, .bool false, .int .i64 0, .bool false] 51 :: blk g5 [.slice none 0 0, .slice none 0 0, .slice none 0 0, .bool false, .int .i64 0, .bool false] 51 :: L) ∧ (m ≤ nOf pages)) (fun i_ => match i_ with | (m, vs, vb) => nOf pages - m) (0, .slice none 0 0, .slice none 0 0) ?_ ?_
  · exact ⟨_, _, _, _, _, _, _, _, _, _, _, _, _, _, _, _, _, _, _, _, rfl, ((((HS.front 3 rfl).front 3 rfl).front 3 rfl).front 3 rfl), Nat.zero_le _⟩
  · clear HS
    rintro ⟨m, vs, vb⟩ a_ w24 ⟨u6, u7, u8, u9, u10, u11, u12, u13, u14, u15, u16, u17, u18, u19, u20, u21, u22, u23, u24, u25, rfl, HS, hI⟩ J22 hJ23
    have hml := hI
    refine wp_seq_k (fun K25 hK26 => ?_)
    refine wp_seq_k (fun K27 hK28 => ?_)
    rcases (by omega : (¬ (m : Int) < pages) ∨ ((m : Int) < pages ∧ ¬ (m : Int) < 244) ∨ ((m : Int) < pages ∧ (m : Int) < 244)) with h1 | ⟨h1, h2⟩ | ⟨h1, h2⟩
    · skip
      have hme := nof_end hml (.inl h1)
      refine c_region (fun ops30 hops29 => ?_)
      refine p_run (l' := _) _ (x_move (.int .i64 (m : Int)) rfl rfl) rfl ?_
      refine p_run (l' := _) _ (x_move (.int .i64 pages) rfl rfl) rfl ?_
      refine p_run (l' := _) _ (x_cmp (k := .i64) (m := (m : Int)) (n := pages) .lss false rfl rfl rfl (decide_eq_false h1) rfl) rfl ?_
      refine p_run (l' := [.int .i64 pages, undef, .pointer (some ⟨g5, 0, none⟩), .pointer (some ⟨g12, 0, none⟩), .int .i64 (m : Int), .agg ([.slice none 0 0, .slice none 0 0, .slice none 0 0, .bool false, .int .i64 0, .bool false] : List Value).toArray, .int .i64 (m : Int), .int .i64 pages, .bool false, .bool false, u10, u11, u12, u13, u14, u15, u16, u17, u18, u19, u20, u21, u22, u23, u24, u25, undef]) _ (x_move (.bool false) rfl rfl) rfl ?_
      refine p_off (l' := _) (by rw [hops29]; rfl) rfl ?_
      refine p_off (l' := _) (by rw [hops29]; rfl) rfl ?_
      refine p_run (l' := _) _ (x_pick false (undef) (.bool false) (.bool false) rfl rfl rfl rfl rfl) rfl ?_
      clear hops29
      refine wpList_nil ?_
      refine fr_at (l' := [.int .i64 pages, undef, .pointer (some ⟨g5, 0, none⟩), .pointer (some ⟨g12, 0, none⟩), .int .i64 (m : Int), .agg ([.slice none 0 0, .slice none 0 0, .slice none 0 0, .bool false, .int .i64 0, .bool false] : List Value).toArray, .int .i64 (m : Int), .int .i64 pages, .bool false, .bool false, undef, undef, .bool false, u13, u14, u15, u16, u17, u18, u19, u20, u21, u22, u23, u24, u25, undef]) rfl ?_
      refine hK28 _ _ ?_
      refine c_false rfl ?_
      refine wp_exit ?_
      refine hK17 _ _ ?_
      refine wp_seq_k (fun K31 hK32 => ?_)
      refine c_region (fun ops34 hops33 => ?_)
      clear hops33
      refine p_run (l' := _) _ (x_loads [vs, vb, .slice none 0 0, .bool false, .int .i64 0, .bool false] 6 rfl rfl (bkCells (HS.get (.tail _ (.tail _ (.head _)))) 0 _ rfl) (by rfl) (by kernel_rfl) rfl) rfl ?_
      refine St.stores (cs' := [vs, vb, .slice none 0 0, .bool false, .int .i64 0, .bool false]) (HS.front 3 rfl) [vs, vb, .slice none 0 0, .bool false, .int .i64 0, .bool false] 6 rfl rfl (all1 (row_one (HS.get (.head _))) (all1 (row_one (HS.get (.tail _ (.head _)))) (all1 rfl (all1 rfl (all1 rfl (all1 rfl rfl)))))) (by kernel_rfl) rfl (by simp) rfl ?_
      clear HS
      intro w35 HS
      refine wpList_nil ?_
      refine fr_at (l' := [.int .i64 pages, undef, .pointer (some ⟨g5, 0, none⟩), .pointer (some ⟨g12, 0, none⟩), .int .i64 (m : Int), .agg ([.slice none 0 0, .slice none 0 0, .slice none 0 0, .bool false, .int .i64 0, .bool false] : List Value).toArray, .int .i64 (m : Int), .int .i64 pages, .bool false, .bool false, undef, undef, .bool false, u13, u14, u15, u16, u17, u18, u19, u20, u21, u22, u23, u24, u25, .agg ([vs, vb, .slice none 0 0, .bool false, .int .i64 0, .bool false] : List Value).toArray]) rfl ?_
      refine hK32 _ _ ?_
      refine wp_ret ?_
      try simp only [Exit.inBlock, Exit.then]
      refine c_ret (.agg ([vs, vb, .slice none 0 0, .bool false, .int .i64 0, .bool false] : List Value).toArray) (r_c rfl rfl (run_loadVar_aggn (by rfl) [vs, vb, .slice none 0 0, .bool false, .int .i64 0, .bool false] 6 (by kernel_rfl) rfl (bkCells (HS.get (.head _)) 0 _ (whole _)))) ?_
      replace HS := HS.nil kWr rfl 74
      rw [hme] at HS
      exact ⟨vs, vb, rfl, ((((HS.front 1 rfl).drop.front 3 rfl).drop.front 2 rfl).front 2 rfl)⟩
    · skip
      have hme := nof_end hml (.inr h2)
      refine c_region (fun ops37 hops36 => ?_)
      refine p_run (l' := _) _ (x_move (.int .i64 (m : Int)) rfl rfl) rfl ?_
      refine p_run (l' := _) _ (x_move (.int .i64 pages) rfl rfl) rfl ?_
      refine p_run (l' := _) _ (x_cmp (k := .i64) (m := (m : Int)) (n := pages) .lss true rfl rfl rfl (decide_eq_true h1) rfl) rfl ?_
      refine p_run (l' := [.int .i64 pages, undef, .pointer (some ⟨g5, 0, none⟩), .pointer (some ⟨g12, 0, none⟩), .int .i64 (m : Int), .agg ([.slice none 0 0, .slice none 0 0, .slice none 0 0, .bool false, .int .i64 0, .bool false] : List Value).toArray, .int .i64 (m : Int), .int .i64 pages, .bool true, .bool true, u10, u11, u12, u13, u14, u15, u16, u17, u18, u19, u20, u21, u22, u23, u24, u25, undef]) _ (x_move (.bool true) rfl rfl) rfl ?_
      refine p_on rfl (by rw [hops36]; rfl) ?_
      refine p_run (l' := _) _ (x_move (.int .i64 (m : Int)) rfl rfl) rfl ?_
      refine p_on rfl (by rw [hops36]; rfl) ?_
      refine p_run (l' := _) _ (x_cmp (k := .i64) (m := (m : Int)) (n := 244) .lss false rfl rfl rfl (decide_eq_false h2) rfl) rfl ?_
      refine p_run (l' := _) _ (x_pick true (.bool false) (.bool false) (.bool false) rfl rfl rfl rfl rfl) rfl ?_
      clear hops36
      refine wpList_nil ?_
      refine fr_at (l' := [.int .i64 pages, undef, .pointer (some ⟨g5, 0, none⟩), .pointer (some ⟨g12, 0, none⟩), .int .i64 (m : Int), .agg ([.slice none 0 0, .slice none 0 0, .slice none 0 0, .bool false, .int .i64 0, .bool false] : List Value).toArray, .int .i64 (m : Int), .int .i64 pages, .bool true, .bool true, .int .i64 (m : Int), .bool false, .bool false, u13, u14, u15, u16, u17, u18, u19, u20, u21, u22, u23, u24, u25, undef]) rfl ?_
      refine hK28 _ _ ?_
      refine c_false rfl ?_
      refine wp_exit ?_
      refine hK17 _ _ ?_
      refine wp_seq_k (fun K38 hK39 => ?_)
      refine c_region (fun ops41 hops40 => ?_)
      clear hops40
      refine p_run (l' := _) _ (x_loads [vs, vb, .slice none 0 0, .bool false, .int .i64 0, .bool false] 6 rfl rfl (bkCells (HS.get (.tail _ (.tail _ (.head _)))) 0 _ rfl) (by rfl) (by kernel_rfl) rfl) rfl ?_
      refine St.stores (cs' := [vs, vb, .slice none 0 0, .bool false, .int .i64 0, .bool false]) (HS.front 3 rfl) [vs, vb, .slice none 0 0, .bool false, .int .i64 0, .bool false] 6 rfl rfl (all1 (row_one (HS.get (.head _))) (all1 (row_one (HS.get (.tail _ (.head _)))) (all1 rfl (all1 rfl (all1 rfl (all1 rfl rfl)))))) (by kernel_rfl) rfl (by simp) rfl ?_
      clear HS
      intro w42 HS
      refine wpList_nil ?_
      refine fr_at (l' := [.int .i64 pages, undef, .pointer (some ⟨g5, 0, none⟩), .pointer (some ⟨g12, 0, none⟩), .int .i64 (m : Int), .agg ([.slice none 0 0, .slice none 0 0, .slice none 0 0, .bool false, .int .i64 0, .bool false] : List Value).toArray, .int .i64 (m : Int), .int .i64 pages, .bool true, .bool true, .int .i64 (m : Int), .bool false, .bool false, u13, u14, u15, u16, u17, u18, u19, u20, u21, u22, u23, u24, u25, .agg ([vs, vb, .slice none 0 0, .bool false, .int .i64 0, .bool false] : List Value).toArray]) rfl ?_
      refine hK39 _ _ ?_
      refine wp_ret ?_
      try simp only [Exit.inBlock, Exit.then]
      refine c_ret (.agg ([vs, vb, .slice none 0 0, .bool false, .int .i64 0, .bool false] : List Value).toArray) (r_c rfl rfl (run_loadVar_aggn (by rfl) [vs, vb, .slice none 0 0, .bool false, .int .i64 0, .bool false] 6 (by kernel_rfl) rfl (bkCells (HS.get (.head _)) 0 _ (whole _)))) ?_
      replace HS := HS.nil kWr rfl 74
      rw [hme] at HS
      exact ⟨vs, vb, rfl, ((((HS.front 1 rfl).drop.front 3 rfl).drop.front 2 rfl).front 2 rfl)⟩
    · skip
      have hmb : m + 1 ≤ 244 := by omega
      refine c_region (fun ops44 hops43 => ?_)
      refine p_run (l' := _) _ (x_move (.int .i64 (m : Int)) rfl rfl) rfl ?_
      refine p_run (l' := _) _ (x_move (.int .i64 pages) rfl rfl) rfl ?_
      refine p_run (l' := _) _ (x_cmp (k := .i64) (m := (m : Int)) (n := pages) .lss true rfl rfl rfl (decide_eq_true h1) rfl) rfl ?_
      refine p_run (l' := [.int .i64 pages, undef, .pointer (some ⟨g5, 0, none⟩), .pointer (some ⟨g12, 0, none⟩), .int .i64 (m : Int), .agg ([.slice none 0 0, .slice none 0 0, .slice none 0 0, .bool false, .int .i64 0, .bool false] : List Value).toArray, .int .i64 (m : Int), .int .i64 pages, .bool true, .bool true, u10, u11, u12, u13, u14, u15, u16, u17, u18, u19, u20, u21, u22, u23, u24, u25, undef]) _ (x_move (.bool true) rfl rfl) rfl ?_
      refine p_on rfl (by rw [hops43]; rfl) ?_
      refine p_run (l' := _) _ (x_move (.int .i64 (m : Int)) rfl rfl) rfl ?_
      refine p_on rfl (by rw [hops43]; rfl) ?_
      refine p_run (l' := _) _ (x_cmp (k := .i64) (m := (m : Int)) (n := 244) .lss true rfl rfl rfl (decide_eq_true h2) rfl) rfl ?_
      refine p_run (l' := _) _ (x_pick true (.bool true) (.bool false) (.bool true) rfl rfl rfl rfl rfl) rfl ?_
      clear hops43
      refine wpList_nil ?_
      refine fr_at (l' := [.int .i64 pages, undef, .pointer (some ⟨g5, 0, none⟩), .pointer (some ⟨g12, 0, none⟩), .int .i64 (m : Int), .agg ([.slice none 0 0, .slice none 0 0, .slice none 0 0, .bool false, .int .i64 0, .bool false] : List Value).toArray, .int .i64 (m : Int), .int .i64 pages, .bool true, .bool true, .int .i64 (m : Int), .bool true, .bool true, u13, u14, u15, u16, u17, u18, u19, u20, u21, u22, u23, u24, u25, undef]) rfl ?_
      refine hK28 _ _ ?_
      refine c_true rfl ?_
      refine wp_skip ?_
      refine hK26 _ _ ?_
      refine wp_seq_k (fun K45 hK46 => ?_)
      refine wp_block ?_
      refine wp_seq_k (fun K47 hK48 => ?_)
      refine c_region (fun ops50 hops49 => ?_)
      clear hops49
      refine p_run (l' := _) _ (x_field (j := 0) _ _ rfl rfl Try.underlying51 rfl (by rfl) rfl) rfl ?_
      refine p_run (l' := _) _ (x_load (vs) rfl rfl (bkCell (HS.get (.tail _ (.tail _ (.head _)))) 0 _ rfl) (by rfl)) rfl ?_
      refine p_run (l' := _) _ (x_build ((nums .u8 zpg)) rfl (by kernel_rfl)) rfl ?_
      refine St.wLit1 HS ((nums .u8 zpg)) 256 (.agg ((nums .u8 zpg)).toArray) (.agg ((nums .u8 zpg)).toArray) Try.underlying48 (by kernel_rfl) (by decide) rfl rfl (by simp [nums_length, zlen]) ?_
      clear HS
      intro g51 w52 hg53 HS
      refine fr_to (l' := [.int .i64 pages, undef, .pointer (some ⟨g5, 0, none⟩), .pointer (some ⟨g12, 0, none⟩), .int .i64 (m : Int), .agg ([.slice none 0 0, .slice none 0 0, .slice none 0 0, .bool false, .int .i64 0, .bool false] : List Value).toArray, .int .i64 (m : Int), .int .i64 pages, .bool true, .bool true, .int .i64 (m : Int), .bool true, .bool true, u13, u14, .pointer (some ⟨g12, 0, none⟩), vs, .agg ((nums .u8 zpg)).toArray, .slice (some ⟨g51, 0, none⟩) 1 1, u19, u20, u21, u22, u23, u24, u25, undef]) rfl ?_
      replace HS := (HS.front 1 rfl)
      refine St.wAppend HS ((.agg (nums .u8 zpg).toArray)) 256 Try.underlying48 (by kernel_rfl) (by kernel_rfl) (by decide) (by decide) [zpg] _ _ _ rfl rfl (lit_reads (HS.get (.tail _ (.head _))) ((Reps.none _ _).snoc (p := zpg) ⟨rfl, zlen⟩ (by simp [kPg, flatK, nums_length, zlen])) (by simp)) (fun _ _ h => h) (by simp; omega) ?_
      clear HS
      intro v54 w55 HS
      refine p_run (l' := _) _ (x_field (j := 0) _ _ rfl rfl Try.underlying51 rfl (by rfl) rfl) rfl ?_
      refine St.store (cs' := [v54, vb, .slice none 0 0, .bool false, .int .i64 0, .bool false]) (HS.front 3 rfl) (v54) rfl rfl (row_one (HS.get (.head _))) (by kernel_rfl) (by rfl) rfl ?_
      clear HS
      intro w56 HS
      refine wpList_nil ?_
      refine fr_at (l' := [.int .i64 pages, undef, .pointer (some ⟨g5, 0, none⟩), .pointer (some ⟨g12, 0, none⟩), .int .i64 (m : Int), .agg ([.slice none 0 0, .slice none 0 0, .slice none 0 0, .bool false, .int .i64 0, .bool false] : List Value).toArray, .int .i64 (m : Int), .int .i64 pages, .bool true, .bool true, .int .i64 (m : Int), .bool true, .bool true, u13, u14, .pointer (some ⟨g12, 0, none⟩), vs, .agg ((nums .u8 zpg)).toArray, .slice (some ⟨g51, 0, none⟩) 1 1, v54, .pointer (some ⟨g12, 0, none⟩), u21, u22, u23, u24, u25, undef]) rfl ?_
      refine hK48 _ _ ?_
      refine c_region (fun ops58 hops57 => ?_)
      clear hops57
      refine p_run (l' := _) _ (x_field (j := 1) _ _ rfl rfl Try.underlying51 rfl (by rfl) rfl) rfl ?_
      refine p_run (l' := _) _ (x_load (vb) rfl rfl (bkCell (HS.get (.head _)) 1 _ rfl) (by rfl)) rfl ?_
      refine St.wLit1 HS [.bool false] 1 (.bool false) (.bool false) Try.underlying22 (by kernel_rfl) (by decide) rfl rfl rfl ?_
      clear HS
      intro g59 w60 hg61 HS
      replace HS := (HS.front 4 rfl)
      refine St.wAppend HS ((.bool false)) 1 Try.underlying22 (by kernel_rfl) rfl (by decide) (by decide) [false] _ _ _ rfl rfl (lit_reads (HS.get (.tail _ (.head _))) ((Reps.none _ _).snoc (p := false) rfl rfl) (by simp)) (fun _ _ h => h) (by simp; omega) ?_
      clear HS
      intro v62 w63 HS
      refine fr_to (l' := [.int .i64 pages, undef, .pointer (some ⟨g5, 0, none⟩), .pointer (some ⟨g12, 0, none⟩), .int .i64 (m : Int), .agg ([.slice none 0 0, .slice none 0 0, .slice none 0 0, .bool false, .int .i64 0, .bool false] : List Value).toArray, .int .i64 (m : Int), .int .i64 pages, .bool true, .bool true, .int .i64 (m : Int), .bool true, .bool true, u13, u14, .pointer (some ⟨g12, 0, none⟩), vs, .agg ((nums .u8 zpg)).toArray, .slice (some ⟨g51, 0, none⟩) 1 1, v54, .pointer (some ⟨g12, 0, none⟩), .pointer (some ⟨g12, 1, none⟩), vb, .slice (some ⟨g59, 0, none⟩) 1 1, v62, u25, undef]) rfl ?_
      refine p_run (l' := _) _ (x_field (j := 1) _ _ rfl rfl Try.underlying51 rfl (by rfl) rfl) rfl ?_
      refine St.store (cs' := [v54, v62, .slice none 0 0, .bool false, .int .i64 0, .bool false]) (HS.front 2 rfl) (v62) rfl rfl (row_one (HS.get (.head _))) (by kernel_rfl) (by rfl) rfl ?_
      clear HS
      intro w64 HS
      refine wpList_nil ?_
      refine fr_at (l' := [.int .i64 pages, undef, .pointer (some ⟨g5, 0, none⟩), .pointer (some ⟨g12, 0, none⟩), .int .i64 (m : Int), .agg ([.slice none 0 0, .slice none 0 0, .slice none 0 0, .bool false, .int .i64 0, .bool false] : List Value).toArray, .int .i64 (m : Int), .int .i64 pages, .bool true, .bool true, .int .i64 (m : Int), .bool true, .bool true, u13, u14, .pointer (some ⟨g12, 0, none⟩), vs, .agg ((nums .u8 zpg)).toArray, .slice (some ⟨g51, 0, none⟩) 1 1, v54, .pointer (some ⟨g12, 0, none⟩), .pointer (some ⟨g12, 1, none⟩), vb, .slice (some ⟨g59, 0, none⟩) 1 1, v62, .pointer (some ⟨g12, 1, none⟩), undef]) rfl ?_
      refine hK46 _ _ ?_
      refine c_region (fun ops66 hops65 => ?_)
      clear hops65
      refine p_run (l' := _) _ (x_move (.int .i64 (m : Int)) rfl rfl) rfl ?_
      refine p_run (l' := _) _ (x_arith (k := .i64) (m := (m : Int)) (n := 1) .add (((m + 1 : Nat) : Int)) rfl rfl rfl (show IntKind.i64.wrap ((m : Int) + 1) = ((m + 1 : Nat) : Int) from ((wr64 (by omega)).trans (by omega))) rfl) rfl ?_
      refine p_run (l' := _) _ (x_assign (.int .i64 ((m + 1 : Nat) : Int)) rfl rfl) rfl ?_
      refine wpList_nil ?_
      refine fr_at (l' := [.int .i64 pages, undef, .pointer (some ⟨g5, 0, none⟩), .pointer (some ⟨g12, 0, none⟩), .int .i64 ((m + 1 : Nat) : Int), .agg ([.slice none 0 0, .slice none 0 0, .slice none 0 0, .bool false, .int .i64 0, .bool false] : List Value).toArray, .int .i64 (m : Int), .int .i64 pages, .bool true, .bool true, .int .i64 (m : Int), .bool true, .bool true, .int .i64 (m : Int), .int .i64 ((m + 1 : Nat) : Int), .pointer (some ⟨g12, 0, none⟩), vs, .agg ((nums .u8 zpg)).toArray, .slice (some ⟨g51, 0, none⟩) 1 1, v54, .pointer (some ⟨g12, 0, none⟩), .pointer (some ⟨g12, 1, none⟩), vb, .slice (some ⟨g59, 0, none⟩) 1 1, v62, .pointer (some ⟨g12, 1, none⟩), undef]) rfl ?_
      rw [← List.replicate_succ', ← List.replicate_succ'] at HS
      refine hJ23 (m + 1, v54, v62) _ _ ?_ ?_
      · show nOf pages - (m + 1) < nOf pages - m; have := nof_step h1 h2; omega
      · exact ⟨_, _, _, _, _, _, _, _, _, _, _, _, _, _, _, _, _, _, _, _, rfl, ((((((HS.front 2 rfl).drop.front 3 rfl).drop.front 3 rfl).front 1 rfl).front 2 rfl).front 3 rfl), nof_step h1 h2⟩
end
end Go.Proofs.Ytjholgfaipfmbaa
