/- The document's disk: Put. -/
import Derived.Test.YtjholgfaipfmbaaRd2
set_option linter.unusedVariables false
set_option linter.unusedSimpArgs false
namespace Go.Proofs.Ytjholgfaipfmbaa
open Go.RowKit Go.Proofs.YtjholgfaipfmbaaW.PrintWords Go.Proofs.YtjholgfaipfmbaaW.PrintLast
section
variable {w0 W : World} {F : Nat → Prop} {L : List Res} {vs vb vp : Value} {R : Rk}
theorem rk_stable : R.act.stable = R.stable := by unfold Rk.act; split <;> rfl
theorem rk_bad : R.act.bad = R.bad := by unfold Rk.act; split <;> rfl
theorem rk_pend : R.act.pending = R.pending := by unfold Rk.act; split <;> rfl
def Rk.put (R : Rk) (i : Int) (p : List Int) : Rk := if R.there i = true then (if R.acts = true then { R.act with pending := R.act.pending ++ [(i, p)] } else R.act) else R
def Rk.putE (R : Rk) (i : Int) : Int := if R.there i = true then R.actE else 41

set_option maxRecDepth 10000 in
theorem rkPut_any (HS : St w0 F W (rk vs vb vp R L)) (hl : R.counted = true → 0 ≤ R.left ∧ R.left < 9223372036854775808) (hpn : R.pending.length ≤ 1000) (i : Int) (p : List Int) (hp : p.length = 256) : Calls Try.prog 23 #[.agg ([vs, vb, vp, .bool R.counted, .int .i64 R.left, .bool R.down] : List Value).toArray, .int .i64 i, .agg ((nums .u8 p)).toArray] W fun e w' => ∃ vp', e = .returned (.tuple #[rkV vs vb vp' (R.put i p), .int .i64 (R.putE i)]) ∧ St w0 F w' (rk vs vb vp' (R.put i p) L) := by
  rcases ht : R.there i with _ | _
  · skip
    refine c_enter Try.func23 rfl 35 rfl [.agg ([vs, vb, vp, .bool R.counted, .int .i64 R.left, .bool R.down] : List Value).toArray, .int .i64 i, .agg ((nums .u8 p)).toArray, undef, undef, undef, undef, undef, undef, undef, undef, undef, undef, undef, undef, undef, undef, undef, undef, undef, undef, undef, undef, undef, undef, undef, undef, undef, undef, undef, undef, undef, undef, undef, undef] rfl ?_
    refine wp_seq_k (fun K1 hK2 => ?_)
    refine c_region (fun ops4 hops3 => ?_)
    clear hops3
    refine St.wBox HS (cs := [vs, vb, vp, .bool R.counted, .int .i64 R.left, .bool R.down]) (.agg ([vs, vb, vp, .bool R.counted, .int .i64 R.left, .bool R.down] : List Value).toArray) rfl rfl ?_
    clear HS
    intro g5 w6 hg7 HS
    refine St.wBox HS (cs := ((nums .u8 p))) (.agg ((nums .u8 p)).toArray) rfl rfl ?_
    clear HS
    intro g8 w9 hg10 HS
    refine St.wAlloc HS (cs := [.slice none 0 0, .slice none 0 0, .slice none 0 0, .bool false, .int .i64 0, .bool false]) (.agg [.slice none 0 0, .slice none 0 0, .slice none 0 0, .bool false, .int .i64 0, .bool false].toArray) (by kernel_rfl) rfl ?_
    clear HS
    intro g11 w12 hg13 HS
    refine p_run (l' := [.agg ([vs, vb, vp, .bool R.counted, .int .i64 R.left, .bool R.down] : List Value).toArray, .int .i64 i, .agg ((nums .u8 p)).toArray, .pointer (some ⟨g5, 0, none⟩), undef, .pointer (some ⟨g8, 0, none⟩), .pointer (some ⟨g11, 0, none⟩), .int .i64 0, undef, undef, undef, undef, undef, undef, undef, undef, undef, undef, undef, undef, undef, undef, undef, undef, undef, undef, undef, undef, undef, undef, undef, undef, undef, undef, undef]) _ (x_assign (.int .i64 0) rfl rfl) rfl ?_
    refine wpList_nil ?_
    refine hK2 _ _ ?_
    refine wp_seq_k (fun K14 hK15 => ?_)
    refine wp_seq_k (fun K16 hK17 => ?_)
    refine c_region (fun ops19 hops18 => ?_)
    clear hops18
    refine p_run (l' := _) _ (x_loads [vs, vb, vp, .bool R.counted, .int .i64 R.left, .bool R.down] 6 rfl rfl (bkCells (HS.get (.tail _ (.tail _ (.head _)))) 0 _ rfl) (by rfl) (by kernel_rfl) rfl) rfl ?_
    refine p_run (l' := _) _ (x_move (.int .i64 i) rfl rfl) rfl ?_
    refine w_call [.agg ([vs, vb, vp, .bool R.counted, .int .i64 R.left, .bool R.down] : List Value).toArray, .int .i64 i] Try.func35 (by kernel_rfl) (by rfl) rfl ?_
    replace HS := (((HS.front 5 rfl).front 5 rfl).front 5 rfl)
    refine (rkThere_any HS _).mono ?_
    clear HS
    rintro e w20 ⟨he_, HS⟩
    rw [ht] at he_
    subst he_
    refine ⟨_, rfl, ?_⟩
    refine p_run (l' := [.agg ([vs, vb, vp, .bool R.counted, .int .i64 R.left, .bool R.down] : List Value).toArray, .int .i64 i, .agg ((nums .u8 p)).toArray, .pointer (some ⟨g5, 0, none⟩), undef, .pointer (some ⟨g8, 0, none⟩), .pointer (some ⟨g11, 0, none⟩), .int .i64 0, undef, undef, .agg ([vs, vb, vp, .bool R.counted, .int .i64 R.left, .bool R.down] : List Value).toArray, .int .i64 i, .bool false, .bool true, undef, undef, undef, undef, undef, undef, undef, undef, undef, undef, undef, undef, undef, undef, undef, undef, undef, undef, undef, undef, undef]) _ (x_not false rfl rfl) rfl ?_
    refine wpList_nil ?_
    refine hK17 _ _ ?_
    refine c_true rfl ?_
    refine wp_seq_k (fun K21 hK22 => ?_)
    refine c_region (fun ops24 hops23 => ?_)
    clear hops23
    refine p_run (l' := _) _ (x_loads [vs, vb, vp, .bool R.counted, .int .i64 R.left, .bool R.down] 6 rfl rfl (bkCells (HS.get (.tail _ (.tail _ (.tail _ (.tail _ (.tail _ (.head _))))))) 0 _ rfl) (by rfl) (by kernel_rfl) rfl) rfl ?_
    refine St.stores (cs' := [vs, vb, vp, .bool R.counted, .int .i64 R.left, .bool R.down]) (HS.front 3 rfl) [vs, vb, vp, .bool R.counted, .int .i64 R.left, .bool R.down] 6 rfl rfl (all1 (row_one (HS.get (.head _))) (all1 (row_one (HS.get (.tail _ (.head _)))) (all1 (row_one (HS.get (.tail _ (.tail _ (.head _))))) (all1 rfl (all1 rfl (all1 rfl rfl)))))) (by kernel_rfl) rfl (by simp) rfl ?_
    clear HS
    intro w25 HS
    refine p_run (l' := _) _ (x_assign (.int .i64 41) rfl rfl) rfl ?_
    refine wpList_nil ?_
    refine fr_at (l' := [.agg ([vs, vb, vp, .bool R.counted, .int .i64 R.left, .bool R.down] : List Value).toArray, .int .i64 i, .agg ((nums .u8 p)).toArray, .pointer (some ⟨g5, 0, none⟩), undef, .pointer (some ⟨g8, 0, none⟩), .pointer (some ⟨g11, 0, none⟩), .int .i64 41, undef, undef, .agg ([vs, vb, vp, .bool R.counted, .int .i64 R.left, .bool R.down] : List Value).toArray, .int .i64 i, .bool false, .bool true, .agg ([vs, vb, vp, .bool R.counted, .int .i64 R.left, .bool R.down] : List Value).toArray, undef, undef, undef, undef, undef, undef, undef, undef, undef, undef, undef, undef, undef, undef, undef, undef, undef, undef, undef, undef]) rfl ?_
    refine hK22 _ _ ?_
    refine wp_ret ?_
    try simp only [Exit.inBlock, Exit.then]
    refine c_ret (.tuple [.agg ([vs, vb, vp, .bool R.counted, .int .i64 R.left, .bool R.down] : List Value).toArray, .int .i64 41].toArray) (r_ct rfl rfl (run_loadVar_aggn (by rfl) [vs, vb, vp, .bool R.counted, .int .i64 R.left, .bool R.down] 6 (by kernel_rfl) rfl (bkCells (HS.get (.head _)) 0 _ (whole _))) rfl) ?_
    have e1 : R.put i p = R := if_neg (by rw [ht]; decide)
    have e2 : R.putE i = 41 := if_neg (by rw [ht]; decide)
    rw [e1, e2]
    exact ⟨vp, rfl, (((((HS.drop.front 3 rfl).drop.front 3 rfl).drop.front 2 rfl).front 2 rfl).front 2 rfl)⟩
  · skip
    rcases hacts : R.acts with _ | _
    · skip
      have ha : R.actE = 42 := if_neg (by rw [hacts]; decide)
      refine c_enter Try.func23 rfl 35 rfl [.agg ([vs, vb, vp, .bool R.counted, .int .i64 R.left, .bool R.down] : List Value).toArray, .int .i64 i, .agg ((nums .u8 p)).toArray, undef, undef, undef, undef, undef, undef, undef, undef, undef, undef, undef, undef, undef, undef, undef, undef, undef, undef, undef, undef, undef, undef, undef, undef, undef, undef, undef, undef, undef, undef, undef, undef] rfl ?_
      refine wp_seq_k (fun K1 hK2 => ?_)
      refine c_region (fun ops4 hops3 => ?_)
      clear hops3
      refine St.wBox HS (cs := [vs, vb, vp, .bool R.counted, .int .i64 R.left, .bool R.down]) (.agg ([vs, vb, vp, .bool R.counted, .int .i64 R.left, .bool R.down] : List Value).toArray) rfl rfl ?_
      clear HS
      intro g5 w6 hg7 HS
      refine St.wBox HS (cs := ((nums .u8 p))) (.agg ((nums .u8 p)).toArray) rfl rfl ?_
      clear HS
      intro g8 w9 hg10 HS
      refine St.wAlloc HS (cs := [.slice none 0 0, .slice none 0 0, .slice none 0 0, .bool false, .int .i64 0, .bool false]) (.agg [.slice none 0 0, .slice none 0 0, .slice none 0 0, .bool false, .int .i64 0, .bool false].toArray) (by kernel_rfl) rfl ?_
      clear HS
      intro g11 w12 hg13 HS
      refine p_run (l' := [.agg ([vs, vb, vp, .bool R.counted, .int .i64 R.left, .bool R.down] : List Value).toArray, .int .i64 i, .agg ((nums .u8 p)).toArray, .pointer (some ⟨g5, 0, none⟩), undef, .pointer (some ⟨g8, 0, none⟩), .pointer (some ⟨g11, 0, none⟩), .int .i64 0, undef, undef, undef, undef, undef, undef, undef, undef, undef, undef, undef, undef, undef, undef, undef, undef, undef, undef, undef, undef, undef, undef, undef, undef, undef, undef, undef]) _ (x_assign (.int .i64 0) rfl rfl) rfl ?_
      refine wpList_nil ?_
      refine hK2 _ _ ?_
      refine wp_seq_k (fun K14 hK15 => ?_)
      refine wp_seq_k (fun K16 hK17 => ?_)
      refine c_region (fun ops19 hops18 => ?_)
      clear hops18
      refine p_run (l' := _) _ (x_loads [vs, vb, vp, .bool R.counted, .int .i64 R.left, .bool R.down] 6 rfl rfl (bkCells (HS.get (.tail _ (.tail _ (.head _)))) 0 _ rfl) (by rfl) (by kernel_rfl) rfl) rfl ?_
      refine p_run (l' := _) _ (x_move (.int .i64 i) rfl rfl) rfl ?_
      refine w_call [.agg ([vs, vb, vp, .bool R.counted, .int .i64 R.left, .bool R.down] : List Value).toArray, .int .i64 i] Try.func35 (by kernel_rfl) (by rfl) rfl ?_
      replace HS := (((HS.front 5 rfl).front 5 rfl).front 5 rfl)
      refine (rkThere_any HS _).mono ?_
      clear HS
      rintro e w20 ⟨he_, HS⟩
      rw [ht] at he_
      subst he_
      refine ⟨_, rfl, ?_⟩
      refine p_run (l' := [.agg ([vs, vb, vp, .bool R.counted, .int .i64 R.left, .bool R.down] : List Value).toArray, .int .i64 i, .agg ((nums .u8 p)).toArray, .pointer (some ⟨g5, 0, none⟩), undef, .pointer (some ⟨g8, 0, none⟩), .pointer (some ⟨g11, 0, none⟩), .int .i64 0, undef, undef, .agg ([vs, vb, vp, .bool R.counted, .int .i64 R.left, .bool R.down] : List Value).toArray, .int .i64 i, .bool true, .bool false, undef, undef, undef, undef, undef, undef, undef, undef, undef, undef, undef, undef, undef, undef, undef, undef, undef, undef, undef, undef, undef]) _ (x_not true rfl rfl) rfl ?_
      refine wpList_nil ?_
      refine hK17 _ _ ?_
      refine c_false rfl ?_
      refine wp_skip ?_
      refine hK15 _ _ ?_
      refine wp_seq_k (fun K21 hK22 => ?_)
      refine c_region (fun ops24 hops23 => ?_)
      clear hops23
      refine p_run (l' := _) _ (x_loads [vs, vb, vp, .bool R.counted, .int .i64 R.left, .bool R.down] 6 rfl rfl (bkCells (HS.get (.tail _ (.tail _ (.tail _ (.tail _ (.tail _ (.head _))))))) 0 _ rfl) (by rfl) (by kernel_rfl) rfl) rfl ?_
      refine w_call [.agg ([vs, vb, vp, .bool R.counted, .int .i64 R.left, .bool R.down] : List Value).toArray] Try.func36 (by kernel_rfl) (by rfl) rfl ?_
      replace HS := (((HS.front 2 rfl).front 2 rfl).front 2 rfl)
      refine (rkAct_any HS hl).mono ?_
      clear HS
      rintro e w25 ⟨rfl, HS⟩
      refine ⟨_, rfl, ?_⟩
      refine p_run (l' := _) _ (x_move (.tuple [.agg ([vs, vb, vp, .bool R.act.counted, .int .i64 R.act.left, .bool R.act.down] : List Value).toArray, .int .i64 R.actE].toArray) rfl rfl) rfl ?_
      refine p_run (l' := [.agg ([vs, vb, vp, .bool R.counted, .int .i64 R.left, .bool R.down] : List Value).toArray, .int .i64 i, .agg ((nums .u8 p)).toArray, .pointer (some ⟨g5, 0, none⟩), undef, .pointer (some ⟨g8, 0, none⟩), .pointer (some ⟨g11, 0, none⟩), .int .i64 0, undef, undef, .agg ([vs, vb, vp, .bool R.counted, .int .i64 R.left, .bool R.down] : List Value).toArray, .int .i64 i, .bool true, .bool false, undef, .tuple [.agg ([vs, vb, vp, .bool R.act.counted, .int .i64 R.act.left, .bool R.act.down] : List Value).toArray, .int .i64 R.actE].toArray, .agg ([vs, vb, vp, .bool R.counted, .int .i64 R.left, .bool R.down] : List Value).toArray, .tuple [.agg ([vs, vb, vp, .bool R.act.counted, .int .i64 R.act.left, .bool R.act.down] : List Value).toArray, .int .i64 R.actE].toArray, .agg ([vs, vb, vp, .bool R.act.counted, .int .i64 R.act.left, .bool R.act.down] : List Value).toArray, undef, undef, undef, undef, undef, undef, undef, undef, undef, undef, undef, undef, undef, undef, undef, undef]) _ (x_extract (vs := [.agg ([vs, vb, vp, .bool R.act.counted, .int .i64 R.act.left, .bool R.act.down] : List Value).toArray, .int .i64 R.actE]) 0 (.agg ([vs, vb, vp, .bool R.act.counted, .int .i64 R.act.left, .bool R.act.down] : List Value).toArray) rfl rfl rfl) rfl ?_
      refine p_run (l' := _) _ (x_extract (vs := [.agg ([vs, vb, vp, .bool R.act.counted, .int .i64 R.act.left, .bool R.act.down] : List Value).toArray, .int .i64 R.actE]) 1 (.int .i64 R.actE) rfl rfl rfl) rfl ?_
      refine St.stores (cs' := [vs, vb, vp, .bool R.act.counted, .int .i64 R.act.left, .bool R.act.down]) (HS.front 5 rfl) [vs, vb, vp, .bool R.act.counted, .int .i64 R.act.left, .bool R.act.down] 6 rfl rfl (all1 (row_one (HS.get (.head _))) (all1 (row_one (HS.get (.tail _ (.head _)))) (all1 (row_one (HS.get (.tail _ (.tail _ (.head _))))) (all1 rfl (all1 rfl (all1 rfl rfl)))))) (by kernel_rfl) rfl (by simp) rfl ?_
      clear HS
      intro w26 HS
      refine p_run (l' := _) _ (x_assign (.int .i64 R.actE) rfl rfl) rfl ?_
      refine wpList_nil ?_
      refine fr_at (l' := [.agg ([vs, vb, vp, .bool R.counted, .int .i64 R.left, .bool R.down] : List Value).toArray, .int .i64 i, .agg ((nums .u8 p)).toArray, .pointer (some ⟨g5, 0, none⟩), undef, .pointer (some ⟨g8, 0, none⟩), .pointer (some ⟨g11, 0, none⟩), .int .i64 0, .int .i64 R.actE, undef, .agg ([vs, vb, vp, .bool R.counted, .int .i64 R.left, .bool R.down] : List Value).toArray, .int .i64 i, .bool true, .bool false, undef, .tuple [.agg ([vs, vb, vp, .bool R.act.counted, .int .i64 R.act.left, .bool R.act.down] : List Value).toArray, .int .i64 R.actE].toArray, .agg ([vs, vb, vp, .bool R.counted, .int .i64 R.left, .bool R.down] : List Value).toArray, .tuple [.agg ([vs, vb, vp, .bool R.act.counted, .int .i64 R.act.left, .bool R.act.down] : List Value).toArray, .int .i64 R.actE].toArray, .agg ([vs, vb, vp, .bool R.act.counted, .int .i64 R.act.left, .bool R.act.down] : List Value).toArray, .int .i64 R.actE, undef, undef, undef, undef, undef, undef, undef, undef, undef, undef, undef, undef, undef, undef, undef]) rfl ?_
      refine hK22 _ _ ?_
      refine wp_seq_k (fun K27 hK28 => ?_)
      refine wp_seq_k (fun K29 hK30 => ?_)
      refine c_region (fun ops32 hops31 => ?_)
      clear hops31
      refine p_run (l' := _) _ (x_move (.int .i64 R.actE) rfl rfl) rfl ?_
      refine p_run (l' := _) _ (x_cmp (k := .i64) (m := R.actE) (n := 0) .eql false rfl rfl rfl (by rw [ha]; rfl) rfl) rfl ?_
      refine wpList_nil ?_
      refine fr_at (l' := [.agg ([vs, vb, vp, .bool R.counted, .int .i64 R.left, .bool R.down] : List Value).toArray, .int .i64 i, .agg ((nums .u8 p)).toArray, .pointer (some ⟨g5, 0, none⟩), undef, .pointer (some ⟨g8, 0, none⟩), .pointer (some ⟨g11, 0, none⟩), .int .i64 0, .int .i64 R.actE, undef, .agg ([vs, vb, vp, .bool R.counted, .int .i64 R.left, .bool R.down] : List Value).toArray, .int .i64 i, .bool true, .bool false, undef, .tuple [.agg ([vs, vb, vp, .bool R.act.counted, .int .i64 R.act.left, .bool R.act.down] : List Value).toArray, .int .i64 R.actE].toArray, .agg ([vs, vb, vp, .bool R.counted, .int .i64 R.left, .bool R.down] : List Value).toArray, .tuple [.agg ([vs, vb, vp, .bool R.act.counted, .int .i64 R.act.left, .bool R.act.down] : List Value).toArray, .int .i64 R.actE].toArray, .agg ([vs, vb, vp, .bool R.act.counted, .int .i64 R.act.left, .bool R.act.down] : List Value).toArray, .int .i64 R.actE, .int .i64 R.actE, .bool false, undef, undef, undef, undef, undef, undef, undef, undef, undef, undef, undef, undef, undef]) rfl ?_
      refine hK30 _ _ ?_
      refine c_false rfl ?_
      refine wp_skip ?_
      refine hK28 _ _ ?_
      refine wp_seq_k (fun K33 hK34 => ?_)
      refine c_region (fun ops36 hops35 => ?_)
      clear hops35
      refine p_run (l' := _) _ (x_loads [vs, vb, vp, .bool R.act.counted, .int .i64 R.act.left, .bool R.act.down] 6 rfl rfl (bkCells (HS.get (.head _)) 0 _ rfl) (by rfl) (by kernel_rfl) rfl) rfl ?_
      refine p_run (l' := _) _ (x_move (.int .i64 R.actE) rfl rfl) rfl ?_
      refine St.stores (cs' := [vs, vb, vp, .bool R.act.counted, .int .i64 R.act.left, .bool R.act.down]) (HS.front 4 rfl) [vs, vb, vp, .bool R.act.counted, .int .i64 R.act.left, .bool R.act.down] 6 rfl rfl (all1 (row_one (HS.get (.tail _ (.head _)))) (all1 (row_one (HS.get (.tail _ (.tail _ (.head _))))) (all1 (row_one (HS.get (.tail _ (.tail _ (.tail _ (.head _)))))) (all1 rfl (all1 rfl (all1 rfl rfl)))))) (by kernel_rfl) rfl (by simp) rfl ?_
      clear HS
      intro w37 HS
      refine p_run (l' := _) _ (x_assign (.int .i64 R.actE) rfl rfl) rfl ?_
      refine wpList_nil ?_
      refine fr_at (l' := [.agg ([vs, vb, vp, .bool R.counted, .int .i64 R.left, .bool R.down] : List Value).toArray, .int .i64 i, .agg ((nums .u8 p)).toArray, .pointer (some ⟨g5, 0, none⟩), undef, .pointer (some ⟨g8, 0, none⟩), .pointer (some ⟨g11, 0, none⟩), .int .i64 R.actE, .int .i64 R.actE, undef, .agg ([vs, vb, vp, .bool R.counted, .int .i64 R.left, .bool R.down] : List Value).toArray, .int .i64 i, .bool true, .bool false, undef, .tuple [.agg ([vs, vb, vp, .bool R.act.counted, .int .i64 R.act.left, .bool R.act.down] : List Value).toArray, .int .i64 R.actE].toArray, .agg ([vs, vb, vp, .bool R.counted, .int .i64 R.left, .bool R.down] : List Value).toArray, .tuple [.agg ([vs, vb, vp, .bool R.act.counted, .int .i64 R.act.left, .bool R.act.down] : List Value).toArray, .int .i64 R.actE].toArray, .agg ([vs, vb, vp, .bool R.act.counted, .int .i64 R.act.left, .bool R.act.down] : List Value).toArray, .int .i64 R.actE, .int .i64 R.actE, .bool false, undef, undef, undef, undef, undef, undef, undef, undef, undef, undef, undef, .agg ([vs, vb, vp, .bool R.act.counted, .int .i64 R.act.left, .bool R.act.down] : List Value).toArray, .int .i64 R.actE]) rfl ?_
      refine hK34 _ _ ?_
      refine wp_ret ?_
      try simp only [Exit.inBlock, Exit.then]
      refine c_ret (.tuple [.agg ([vs, vb, vp, .bool R.act.counted, .int .i64 R.act.left, .bool R.act.down] : List Value).toArray, .int .i64 R.actE].toArray) (r_ct rfl rfl (run_loadVar_aggn (by rfl) [vs, vb, vp, .bool R.act.counted, .int .i64 R.act.left, .bool R.act.down] 6 (by kernel_rfl) rfl (bkCells (HS.get (.head _)) 0 _ (whole _))) rfl) ?_
      have e1 : R.put i p = R.act := by unfold Rk.put; rw [if_pos ht, if_neg (by rw [hacts]; decide)]
      have e2 : R.putE i = R.actE := if_pos ht
      rw [e1, e2]
      exact ⟨vp, rfl, ((((HS.drop.drop.front 3 rfl).drop.front 2 rfl).front 2 rfl).front 2 rfl)⟩
    · skip
      have ha : R.actE = 0 := if_pos hacts
      obtain ⟨Ap, cp, hvp, hcp, -⟩ := row_reads (HS.get (.tail _ (.tail _ (.head _))))
      subst hvp
      refine c_enter Try.func23 rfl 35 rfl [.agg ([vs, vb, .slice Ap R.pending.length cp, .bool R.counted, .int .i64 R.left, .bool R.down] : List Value).toArray, .int .i64 i, .agg ((nums .u8 p)).toArray, undef, undef, undef, undef, undef, undef, undef, undef, undef, undef, undef, undef, undef, undef, undef, undef, undef, undef, undef, undef, undef, undef, undef, undef, undef, undef, undef, undef, undef, undef, undef, undef] rfl ?_
      refine wp_seq_k (fun K1 hK2 => ?_)
      refine c_region (fun ops4 hops3 => ?_)
      clear hops3
      refine St.wBox HS (cs := [vs, vb, .slice Ap R.pending.length cp, .bool R.counted, .int .i64 R.left, .bool R.down]) (.agg ([vs, vb, .slice Ap R.pending.length cp, .bool R.counted, .int .i64 R.left, .bool R.down] : List Value).toArray) rfl rfl ?_
      clear HS
      intro g5 w6 hg7 HS
      refine St.wBox HS (cs := ((nums .u8 p))) (.agg ((nums .u8 p)).toArray) rfl rfl ?_
      clear HS
      intro g8 w9 hg10 HS
      refine St.wAlloc HS (cs := [.slice none 0 0, .slice none 0 0, .slice none 0 0, .bool false, .int .i64 0, .bool false]) (.agg [.slice none 0 0, .slice none 0 0, .slice none 0 0, .bool false, .int .i64 0, .bool false].toArray) (by kernel_rfl) rfl ?_
      clear HS
      intro g11 w12 hg13 HS
      refine p_run (l' := [.agg ([vs, vb, .slice Ap R.pending.length cp, .bool R.counted, .int .i64 R.left, .bool R.down] : List Value).toArray, .int .i64 i, .agg ((nums .u8 p)).toArray, .pointer (some ⟨g5, 0, none⟩), undef, .pointer (some ⟨g8, 0, none⟩), .pointer (some ⟨g11, 0, none⟩), .int .i64 0, undef, undef, undef, undef, undef, undef, undef, undef, undef, undef, undef, undef, undef, undef, undef, undef, undef, undef, undef, undef, undef, undef, undef, undef, undef, undef, undef]) _ (x_assign (.int .i64 0) rfl rfl) rfl ?_
      refine wpList_nil ?_
      refine hK2 _ _ ?_
      refine wp_seq_k (fun K14 hK15 => ?_)
      refine wp_seq_k (fun K16 hK17 => ?_)
      refine c_region (fun ops19 hops18 => ?_)
      clear hops18
      refine p_run (l' := _) _ (x_loads [vs, vb, .slice Ap R.pending.length cp, .bool R.counted, .int .i64 R.left, .bool R.down] 6 rfl rfl (bkCells (HS.get (.tail _ (.tail _ (.head _)))) 0 _ rfl) (by rfl) (by kernel_rfl) rfl) rfl ?_
      refine p_run (l' := _) _ (x_move (.int .i64 i) rfl rfl) rfl ?_
      refine w_call [.agg ([vs, vb, .slice Ap R.pending.length cp, .bool R.counted, .int .i64 R.left, .bool R.down] : List Value).toArray, .int .i64 i] Try.func35 (by kernel_rfl) (by rfl) rfl ?_
      replace HS := (((HS.front 5 rfl).front 5 rfl).front 5 rfl)
      refine (rkThere_any HS _).mono ?_
      clear HS
      rintro e w20 ⟨he_, HS⟩
      rw [ht] at he_
      subst he_
      refine ⟨_, rfl, ?_⟩
      refine p_run (l' := [.agg ([vs, vb, .slice Ap R.pending.length cp, .bool R.counted, .int .i64 R.left, .bool R.down] : List Value).toArray, .int .i64 i, .agg ((nums .u8 p)).toArray, .pointer (some ⟨g5, 0, none⟩), undef, .pointer (some ⟨g8, 0, none⟩), .pointer (some ⟨g11, 0, none⟩), .int .i64 0, undef, undef, .agg ([vs, vb, .slice Ap R.pending.length cp, .bool R.counted, .int .i64 R.left, .bool R.down] : List Value).toArray, .int .i64 i, .bool true, .bool false, undef, undef, undef, undef, undef, undef, undef, undef, undef, undef, undef, undef, undef, undef, undef, undef, undef, undef, undef, undef, undef]) _ (x_not true rfl rfl) rfl ?_
      refine wpList_nil ?_
      refine hK17 _ _ ?_
      refine c_false rfl ?_
      refine wp_skip ?_
      refine hK15 _ _ ?_
      refine wp_seq_k (fun K21 hK22 => ?_)
      refine c_region (fun ops24 hops23 => ?_)
      clear hops23
      refine p_run (l' := _) _ (x_loads [vs, vb, .slice Ap R.pending.length cp, .bool R.counted, .int .i64 R.left, .bool R.down] 6 rfl rfl (bkCells (HS.get (.tail _ (.tail _ (.tail _ (.tail _ (.tail _ (.head _))))))) 0 _ rfl) (by rfl) (by kernel_rfl) rfl) rfl ?_
      refine w_call [.agg ([vs, vb, .slice Ap R.pending.length cp, .bool R.counted, .int .i64 R.left, .bool R.down] : List Value).toArray] Try.func36 (by kernel_rfl) (by rfl) rfl ?_
      replace HS := (((HS.front 2 rfl).front 2 rfl).front 2 rfl)
      refine (rkAct_any HS hl).mono ?_
      clear HS
      rintro e w25 ⟨rfl, HS⟩
      refine ⟨_, rfl, ?_⟩
      refine p_run (l' := _) _ (x_move (.tuple [.agg ([vs, vb, .slice Ap R.pending.length cp, .bool R.act.counted, .int .i64 R.act.left, .bool R.act.down] : List Value).toArray, .int .i64 R.actE].toArray) rfl rfl) rfl ?_
      refine p_run (l' := [.agg ([vs, vb, .slice Ap R.pending.length cp, .bool R.counted, .int .i64 R.left, .bool R.down] : List Value).toArray, .int .i64 i, .agg ((nums .u8 p)).toArray, .pointer (some ⟨g5, 0, none⟩), undef, .pointer (some ⟨g8, 0, none⟩), .pointer (some ⟨g11, 0, none⟩), .int .i64 0, undef, undef, .agg ([vs, vb, .slice Ap R.pending.length cp, .bool R.counted, .int .i64 R.left, .bool R.down] : List Value).toArray, .int .i64 i, .bool true, .bool false, undef, .tuple [.agg ([vs, vb, .slice Ap R.pending.length cp, .bool R.act.counted, .int .i64 R.act.left, .bool R.act.down] : List Value).toArray, .int .i64 R.actE].toArray, .agg ([vs, vb, .slice Ap R.pending.length cp, .bool R.counted, .int .i64 R.left, .bool R.down] : List Value).toArray, .tuple [.agg ([vs, vb, .slice Ap R.pending.length cp, .bool R.act.counted, .int .i64 R.act.left, .bool R.act.down] : List Value).toArray, .int .i64 R.actE].toArray, .agg ([vs, vb, .slice Ap R.pending.length cp, .bool R.act.counted, .int .i64 R.act.left, .bool R.act.down] : List Value).toArray, undef, undef, undef, undef, undef, undef, undef, undef, undef, undef, undef, undef, undef, undef, undef, undef]) _ (x_extract (vs := [.agg ([vs, vb, .slice Ap R.pending.length cp, .bool R.act.counted, .int .i64 R.act.left, .bool R.act.down] : List Value).toArray, .int .i64 R.actE]) 0 (.agg ([vs, vb, .slice Ap R.pending.length cp, .bool R.act.counted, .int .i64 R.act.left, .bool R.act.down] : List Value).toArray) rfl rfl rfl) rfl ?_
      refine p_run (l' := _) _ (x_extract (vs := [.agg ([vs, vb, .slice Ap R.pending.length cp, .bool R.act.counted, .int .i64 R.act.left, .bool R.act.down] : List Value).toArray, .int .i64 R.actE]) 1 (.int .i64 R.actE) rfl rfl rfl) rfl ?_
      refine St.stores (cs' := [vs, vb, .slice Ap R.pending.length cp, .bool R.act.counted, .int .i64 R.act.left, .bool R.act.down]) (HS.front 5 rfl) [vs, vb, .slice Ap R.pending.length cp, .bool R.act.counted, .int .i64 R.act.left, .bool R.act.down] 6 rfl rfl (all1 (row_one (HS.get (.head _))) (all1 (row_one (HS.get (.tail _ (.head _)))) (all1 rfl (all1 rfl (all1 rfl (all1 rfl rfl)))))) (by kernel_rfl) rfl (by simp) rfl ?_
      clear HS
      intro w26 HS
      refine p_run (l' := _) _ (x_assign (.int .i64 R.actE) rfl rfl) rfl ?_
      refine wpList_nil ?_
      refine fr_at (l' := [.agg ([vs, vb, .slice Ap R.pending.length cp, .bool R.counted, .int .i64 R.left, .bool R.down] : List Value).toArray, .int .i64 i, .agg ((nums .u8 p)).toArray, .pointer (some ⟨g5, 0, none⟩), undef, .pointer (some ⟨g8, 0, none⟩), .pointer (some ⟨g11, 0, none⟩), .int .i64 0, .int .i64 R.actE, undef, .agg ([vs, vb, .slice Ap R.pending.length cp, .bool R.counted, .int .i64 R.left, .bool R.down] : List Value).toArray, .int .i64 i, .bool true, .bool false, undef, .tuple [.agg ([vs, vb, .slice Ap R.pending.length cp, .bool R.act.counted, .int .i64 R.act.left, .bool R.act.down] : List Value).toArray, .int .i64 R.actE].toArray, .agg ([vs, vb, .slice Ap R.pending.length cp, .bool R.counted, .int .i64 R.left, .bool R.down] : List Value).toArray, .tuple [.agg ([vs, vb, .slice Ap R.pending.length cp, .bool R.act.counted, .int .i64 R.act.left, .bool R.act.down] : List Value).toArray, .int .i64 R.actE].toArray, .agg ([vs, vb, .slice Ap R.pending.length cp, .bool R.act.counted, .int .i64 R.act.left, .bool R.act.down] : List Value).toArray, .int .i64 R.actE, undef, undef, undef, undef, undef, undef, undef, undef, undef, undef, undef, undef, undef, undef, undef]) rfl ?_
      refine hK22 _ _ ?_
      refine wp_seq_k (fun K27 hK28 => ?_)
      refine wp_seq_k (fun K29 hK30 => ?_)
      refine c_region (fun ops32 hops31 => ?_)
      clear hops31
      refine p_run (l' := _) _ (x_move (.int .i64 R.actE) rfl rfl) rfl ?_
      refine p_run (l' := _) _ (x_cmp (k := .i64) (m := R.actE) (n := 0) .eql true rfl rfl rfl (by rw [ha]; rfl) rfl) rfl ?_
      refine wpList_nil ?_
      refine fr_at (l' := [.agg ([vs, vb, .slice Ap R.pending.length cp, .bool R.counted, .int .i64 R.left, .bool R.down] : List Value).toArray, .int .i64 i, .agg ((nums .u8 p)).toArray, .pointer (some ⟨g5, 0, none⟩), undef, .pointer (some ⟨g8, 0, none⟩), .pointer (some ⟨g11, 0, none⟩), .int .i64 0, .int .i64 R.actE, undef, .agg ([vs, vb, .slice Ap R.pending.length cp, .bool R.counted, .int .i64 R.left, .bool R.down] : List Value).toArray, .int .i64 i, .bool true, .bool false, undef, .tuple [.agg ([vs, vb, .slice Ap R.pending.length cp, .bool R.act.counted, .int .i64 R.act.left, .bool R.act.down] : List Value).toArray, .int .i64 R.actE].toArray, .agg ([vs, vb, .slice Ap R.pending.length cp, .bool R.counted, .int .i64 R.left, .bool R.down] : List Value).toArray, .tuple [.agg ([vs, vb, .slice Ap R.pending.length cp, .bool R.act.counted, .int .i64 R.act.left, .bool R.act.down] : List Value).toArray, .int .i64 R.actE].toArray, .agg ([vs, vb, .slice Ap R.pending.length cp, .bool R.act.counted, .int .i64 R.act.left, .bool R.act.down] : List Value).toArray, .int .i64 R.actE, .int .i64 R.actE, .bool true, undef, undef, undef, undef, undef, undef, undef, undef, undef, undef, undef, undef, undef]) rfl ?_
      refine hK30 _ _ ?_
      refine c_true rfl ?_
      refine wp_seq_k (fun K33 hK34 => ?_)
      refine c_region (fun ops36 hops35 => ?_)
      clear hops35
      refine St.wLit0 HS kWr rfl 257 (.agg (Value.int .i64 0 :: (nums .u8 zpg)).toArray) Try.underlying49 (by kernel_rfl) ?_
      clear HS
      intro v37 w38 HS
      refine p_run (l' := _) _ (x_field (j := 2) _ _ rfl rfl Try.underlying51 rfl (by rfl) rfl) rfl ?_
      refine p_run (l' := _) _ (x_load (.slice Ap R.pending.length cp) rfl rfl (bkCell (HS.get (.tail _ (.head _))) 2 _ rfl) (by rfl)) rfl ?_
      refine St.wAppend HS ((.agg (.int .i64 0 :: nums .u8 zpg).toArray)) 264 Try.underlying49 (by kernel_rfl) (by kernel_rfl) (by decide) (by decide) R.act.pending _ _ _ rfl rfl (by have h := row_C (HS.get (.tail _ (.tail _ (.tail _ (.tail _ (.head _)))))); rw [h.1]; exact h.2.2) (fun _ _ h => h) (by simp; omega) ?_
      clear HS
      intro v39 w40 HS
      refine fr_to (l' := [.agg ([vs, vb, .slice Ap R.pending.length cp, .bool R.counted, .int .i64 R.left, .bool R.down] : List Value).toArray, .int .i64 i, .agg ((nums .u8 p)).toArray, .pointer (some ⟨g5, 0, none⟩), undef, .pointer (some ⟨g8, 0, none⟩), .pointer (some ⟨g11, 0, none⟩), .int .i64 0, .int .i64 R.actE, undef, .agg ([vs, vb, .slice Ap R.pending.length cp, .bool R.counted, .int .i64 R.left, .bool R.down] : List Value).toArray, .int .i64 i, .bool true, .bool false, undef, .tuple [.agg ([vs, vb, .slice Ap R.pending.length cp, .bool R.act.counted, .int .i64 R.act.left, .bool R.act.down] : List Value).toArray, .int .i64 R.actE].toArray, .agg ([vs, vb, .slice Ap R.pending.length cp, .bool R.counted, .int .i64 R.left, .bool R.down] : List Value).toArray, .tuple [.agg ([vs, vb, .slice Ap R.pending.length cp, .bool R.act.counted, .int .i64 R.act.left, .bool R.act.down] : List Value).toArray, .int .i64 R.actE].toArray, .agg ([vs, vb, .slice Ap R.pending.length cp, .bool R.act.counted, .int .i64 R.act.left, .bool R.act.down] : List Value).toArray, .int .i64 R.actE, .int .i64 R.actE, .bool true, v37, .pointer (some ⟨g5, 2, none⟩), .slice Ap R.pending.length cp, v39, undef, undef, undef, undef, undef, undef, undef, undef, undef]) rfl ?_
      refine p_run (l' := _) _ (x_assign (v39) rfl rfl) rfl ?_
      refine wpList_nil ?_
      refine fr_at (l' := [.agg ([vs, vb, .slice Ap R.pending.length cp, .bool R.counted, .int .i64 R.left, .bool R.down] : List Value).toArray, .int .i64 i, .agg ((nums .u8 p)).toArray, .pointer (some ⟨g5, 0, none⟩), undef, .pointer (some ⟨g8, 0, none⟩), .pointer (some ⟨g11, 0, none⟩), .int .i64 0, .int .i64 R.actE, v39, .agg ([vs, vb, .slice Ap R.pending.length cp, .bool R.counted, .int .i64 R.left, .bool R.down] : List Value).toArray, .int .i64 i, .bool true, .bool false, undef, .tuple [.agg ([vs, vb, .slice Ap R.pending.length cp, .bool R.act.counted, .int .i64 R.act.left, .bool R.act.down] : List Value).toArray, .int .i64 R.actE].toArray, .agg ([vs, vb, .slice Ap R.pending.length cp, .bool R.counted, .int .i64 R.left, .bool R.down] : List Value).toArray, .tuple [.agg ([vs, vb, .slice Ap R.pending.length cp, .bool R.act.counted, .int .i64 R.act.left, .bool R.act.down] : List Value).toArray, .int .i64 R.actE].toArray, .agg ([vs, vb, .slice Ap R.pending.length cp, .bool R.act.counted, .int .i64 R.act.left, .bool R.act.down] : List Value).toArray, .int .i64 R.actE, .int .i64 R.actE, .bool true, v37, .pointer (some ⟨g5, 2, none⟩), .slice Ap R.pending.length cp, v39, undef, undef, undef, undef, undef, undef, undef, undef, undef]) rfl ?_
      refine hK34 _ _ ?_
      refine c_region (fun ops42 hops41 => ?_)
      clear hops41
      refine p_run (l' := _) _ (x_move (v39) rfl rfl) rfl ?_
      refine p_run (l' := _) _ (x_move (.int .i64 i) rfl rfl) rfl ?_
      refine p_run (l' := _) _ (x_loads ((nums .u8 p)) 256 rfl rfl (bkCells (HS.get (.tail _ (.tail _ (.tail _ (.tail _ (.tail _ (.tail _ (.head _)))))))) 0 _ (whole _)) (by rfl) (by kernel_rfl) (by simp [hp, nums_length])) rfl ?_
      refine p_run (l' := [.agg ([vs, vb, .slice Ap R.pending.length cp, .bool R.counted, .int .i64 R.left, .bool R.down] : List Value).toArray, .int .i64 i, .agg ((nums .u8 p)).toArray, .pointer (some ⟨g5, 0, none⟩), undef, .pointer (some ⟨g8, 0, none⟩), .pointer (some ⟨g11, 0, none⟩), .int .i64 0, .int .i64 R.actE, v39, .agg ([vs, vb, .slice Ap R.pending.length cp, .bool R.counted, .int .i64 R.left, .bool R.down] : List Value).toArray, .int .i64 i, .bool true, .bool false, undef, .tuple [.agg ([vs, vb, .slice Ap R.pending.length cp, .bool R.act.counted, .int .i64 R.act.left, .bool R.act.down] : List Value).toArray, .int .i64 R.actE].toArray, .agg ([vs, vb, .slice Ap R.pending.length cp, .bool R.counted, .int .i64 R.left, .bool R.down] : List Value).toArray, .tuple [.agg ([vs, vb, .slice Ap R.pending.length cp, .bool R.act.counted, .int .i64 R.act.left, .bool R.act.down] : List Value).toArray, .int .i64 R.actE].toArray, .agg ([vs, vb, .slice Ap R.pending.length cp, .bool R.act.counted, .int .i64 R.act.left, .bool R.act.down] : List Value).toArray, .int .i64 R.actE, .int .i64 R.actE, .bool true, v37, .pointer (some ⟨g5, 2, none⟩), .slice Ap R.pending.length cp, v39, v39, .int .i64 i, .agg ((nums .u8 p)).toArray, .agg (Value.int .i64 i :: (nums .u8 p)).toArray, undef, undef, undef, undef, undef]) _ (x_builds [(0, .int .i64 i), (1, .agg ((nums .u8 p)).toArray)] _ (Value.int .i64 0 :: (nums .u8 zpg)) [(0, 1), (1, 256)] (Value.int .i64 i :: (nums .u8 p)) rfl rfl Try.underlying74 (by kernel_rfl) (by kernel_rfl) ((fill_cons (off := 0) (n := 1) (us := [.int .i64 i]) rfl rfl rfl (by simp [lay, hp, nums_length, zlen])).trans ((fill_cons (off := 1) (n := 256) (us := ((nums .u8 p))) rfl rfl (by simp [hp, nums_length]) (by simp [lay, hp, nums_length, zlen])).trans (congrArg (fun c => some (List.toArray c)) (by simp [lay, hp, nums_length, zlen]))))) rfl ?_
      refine St.wLit1 HS (Value.int .i64 i :: (nums .u8 p)) 257 (.agg (Value.int .i64 0 :: (nums .u8 zpg)).toArray) (.agg (Value.int .i64 i :: (nums .u8 p)).toArray) Try.underlying49 (by kernel_rfl) (by decide) rfl rfl (by simp [hp, nums_length]) ?_
      clear HS
      intro g43 w44 hg45 HS
      replace HS := (HS.front 1 rfl)
      refine St.wAppend HS ((.agg (.int .i64 0 :: nums .u8 zpg).toArray)) 264 Try.underlying49 (by kernel_rfl) (by kernel_rfl) (by decide) (by decide) [(i, p)] _ _ _ rfl rfl (lit_reads (HS.get (.tail _ (.head _))) ((Reps.none _ _).snoc (p := (i, p)) ⟨rfl, hp⟩ (by simp [kWr, flatK, nums_length, hp])) (by simp)) (fun _ _ h => h) (by simp [rk_pend]; omega) ?_
      clear HS
      intro v46 w47 HS
      refine p_run (l' := _) _ (x_field (j := 2) _ _ rfl rfl Try.underlying51 rfl (by rfl) rfl) rfl ?_
      refine St.store (cs' := [vs, vb, v46, .bool R.act.counted, .int .i64 R.act.left, .bool R.act.down]) (HS.front 2 rfl) (v46) rfl rfl (row_one (HS.get (.head _))) (by kernel_rfl) (by rfl) rfl ?_
      clear HS
      intro w48 HS
      refine wpList_nil ?_
      refine fr_at (l' := [.agg ([vs, vb, .slice Ap R.pending.length cp, .bool R.counted, .int .i64 R.left, .bool R.down] : List Value).toArray, .int .i64 i, .agg ((nums .u8 p)).toArray, .pointer (some ⟨g5, 0, none⟩), undef, .pointer (some ⟨g8, 0, none⟩), .pointer (some ⟨g11, 0, none⟩), .int .i64 0, .int .i64 R.actE, v39, .agg ([vs, vb, .slice Ap R.pending.length cp, .bool R.counted, .int .i64 R.left, .bool R.down] : List Value).toArray, .int .i64 i, .bool true, .bool false, undef, .tuple [.agg ([vs, vb, .slice Ap R.pending.length cp, .bool R.act.counted, .int .i64 R.act.left, .bool R.act.down] : List Value).toArray, .int .i64 R.actE].toArray, .agg ([vs, vb, .slice Ap R.pending.length cp, .bool R.counted, .int .i64 R.left, .bool R.down] : List Value).toArray, .tuple [.agg ([vs, vb, .slice Ap R.pending.length cp, .bool R.act.counted, .int .i64 R.act.left, .bool R.act.down] : List Value).toArray, .int .i64 R.actE].toArray, .agg ([vs, vb, .slice Ap R.pending.length cp, .bool R.act.counted, .int .i64 R.act.left, .bool R.act.down] : List Value).toArray, .int .i64 R.actE, .int .i64 R.actE, .bool true, v37, .pointer (some ⟨g5, 2, none⟩), .slice Ap R.pending.length cp, v39, v39, .int .i64 i, .agg ((nums .u8 p)).toArray, .agg (Value.int .i64 i :: (nums .u8 p)).toArray, .slice (some ⟨g43, 0, none⟩) 1 1, v46, .pointer (some ⟨g5, 2, none⟩), undef, undef]) rfl ?_
      refine hK28 _ _ ?_
      refine wp_seq_k (fun K49 hK50 => ?_)
      refine c_region (fun ops52 hops51 => ?_)
      clear hops51
      refine p_run (l' := _) _ (x_loads [vs, vb, v46, .bool R.act.counted, .int .i64 R.act.left, .bool R.act.down] 6 rfl rfl (bkCells (HS.get (.head _)) 0 _ rfl) (by rfl) (by kernel_rfl) rfl) rfl ?_
      refine p_run (l' := _) _ (x_move (.int .i64 R.actE) rfl rfl) rfl ?_
      refine St.stores (cs' := [vs, vb, v46, .bool R.act.counted, .int .i64 R.act.left, .bool R.act.down]) (HS.front 6 rfl) [vs, vb, v46, .bool R.act.counted, .int .i64 R.act.left, .bool R.act.down] 6 rfl rfl (all1 (row_one (HS.get (.tail _ (.tail _ (.tail _ (.head _)))))) (all1 (row_one (HS.get (.tail _ (.tail _ (.tail _ (.tail _ (.head _))))))) (all1 (row_one (HS.get (.tail _ (.head _)))) (all1 rfl (all1 rfl (all1 rfl rfl)))))) (by kernel_rfl) rfl (by simp) rfl ?_
      clear HS
      intro w53 HS
      refine p_run (l' := _) _ (x_assign (.int .i64 R.actE) rfl rfl) rfl ?_
      refine wpList_nil ?_
      refine fr_at (l' := [.agg ([vs, vb, .slice Ap R.pending.length cp, .bool R.counted, .int .i64 R.left, .bool R.down] : List Value).toArray, .int .i64 i, .agg ((nums .u8 p)).toArray, .pointer (some ⟨g5, 0, none⟩), undef, .pointer (some ⟨g8, 0, none⟩), .pointer (some ⟨g11, 0, none⟩), .int .i64 R.actE, .int .i64 R.actE, v39, .agg ([vs, vb, .slice Ap R.pending.length cp, .bool R.counted, .int .i64 R.left, .bool R.down] : List Value).toArray, .int .i64 i, .bool true, .bool false, undef, .tuple [.agg ([vs, vb, .slice Ap R.pending.length cp, .bool R.act.counted, .int .i64 R.act.left, .bool R.act.down] : List Value).toArray, .int .i64 R.actE].toArray, .agg ([vs, vb, .slice Ap R.pending.length cp, .bool R.counted, .int .i64 R.left, .bool R.down] : List Value).toArray, .tuple [.agg ([vs, vb, .slice Ap R.pending.length cp, .bool R.act.counted, .int .i64 R.act.left, .bool R.act.down] : List Value).toArray, .int .i64 R.actE].toArray, .agg ([vs, vb, .slice Ap R.pending.length cp, .bool R.act.counted, .int .i64 R.act.left, .bool R.act.down] : List Value).toArray, .int .i64 R.actE, .int .i64 R.actE, .bool true, v37, .pointer (some ⟨g5, 2, none⟩), .slice Ap R.pending.length cp, v39, v39, .int .i64 i, .agg ((nums .u8 p)).toArray, .agg (Value.int .i64 i :: (nums .u8 p)).toArray, .slice (some ⟨g43, 0, none⟩) 1 1, v46, .pointer (some ⟨g5, 2, none⟩), .agg ([vs, vb, v46, .bool R.act.counted, .int .i64 R.act.left, .bool R.act.down] : List Value).toArray, .int .i64 R.actE]) rfl ?_
      refine hK50 _ _ ?_
      refine wp_ret ?_
      try simp only [Exit.inBlock, Exit.then]
      refine c_ret (.tuple [.agg ([vs, vb, v46, .bool R.act.counted, .int .i64 R.act.left, .bool R.act.down] : List Value).toArray, .int .i64 R.actE].toArray) (r_ct rfl rfl (run_loadVar_aggn (by rfl) [vs, vb, v46, .bool R.act.counted, .int .i64 R.act.left, .bool R.act.down] 6 (by kernel_rfl) rfl (bkCells (HS.get (.head _)) 0 _ (whole _))) rfl) ?_
      have e1 : R.put i p = { R.act with pending := [] ++ R.act.pending ++ [(i, p)] } := by unfold Rk.put; rw [if_pos ht, if_pos hacts, List.nil_append]
      have e2 : R.putE i = R.actE := if_pos ht
      rw [e1, e2]
      exact ⟨_, rfl, (((((HS.drop.drop.front 1 rfl).drop.front 3 rfl).drop.front 3 rfl).drop.front 2 rfl).front 2 rfl)⟩
end
end Go.Proofs.Ytjholgfaipfmbaa
