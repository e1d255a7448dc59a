/- The document's disk: Crash, Sync. -/
import Derived.Test.YtjholgfaipfmbaaRd5
import Derived.Test.YtjholgfaipfmbaaRd3
set_option linter.unusedVariables false
set_option linter.unusedSimpArgs false
namespace Go.Proofs.Ytjholgfaipfmbaa
open Go.RowKit Go.Proofs.YtjholgfaipfmbaaW.PrintWords Go.Proofs.YtjholgfaipfmbaaW.PrintLast
section
variable {w0 W : World} {F : Nat → Prop} {L : List Res} {vs vb vp : Value} {R : Rk}
def Rk.crash (R : Rk) (keep : List Int) : Rk := { stable := (R.settle keep).stable, bad := R.bad, pending := [], counted := false, left := 0, down := false }
def Rk.sync (R : Rk) : Rk := if R.acts = true then R.act.settle (List.replicate R.act.pending.length 255) else R.act

set_option maxRecDepth 10000 in
theorem rkCrash_any (HS : St w0 F W (rk vs vb vp R L)) (hT : ∀ p ∈ R.stable, p.length = 256) (hpd : ∀ x ∈ R.pending, 0 ≤ x.1 ∧ x.1 < R.stable.length ∧ x.2.length = 256) (hpn : R.pending.length ≤ 1000) (hsl : R.stable.length ≤ 244) {A : Option Addr} {c : Nat} (keep : List Int) (hk0 : ∀ z ∈ keep, 0 ≤ z ∧ z < 256) (hkeep : ∀ w X, St w0 F w (X ++ L) → (Kd.int .u8).C w A keep.length keep) : Calls Try.prog 26 #[.agg ([vs, vb, vp, .bool R.counted, .int .i64 R.left, .bool R.down] : List Value).toArray, .slice A keep.length c] W fun e w' => ∃ vs', e = .returned (rkV vs' vb (.slice none 0 0) (R.crash keep)) ∧ St w0 F w' (rk vs' vb (.slice none 0 0) (R.crash keep) L) := by
  refine c_enter Try.func26 rfl 13 rfl [.agg ([vs, vb, vp, .bool R.counted, .int .i64 R.left, .bool R.down] : List Value).toArray, .slice A keep.length c, undef, undef, undef, undef, undef, undef, undef, undef, undef, undef, undef] rfl ?_
  refine wp_seq_k (fun K1 hK2 => ?_)
  refine c_region (fun ops4 hops3 => ?_)
  clear hops3
  refine St.wBox HS (cs := [vs, vb, vp, .bool R.counted, .int .i64 R.left, .bool R.down]) (.agg ([vs, vb, vp, .bool R.counted, .int .i64 R.left, .bool R.down] : List Value).toArray) rfl rfl ?_
  clear HS
  intro g5 w6 hg7 HS
  refine St.wAlloc HS (cs := [.slice none 0 0, .slice none 0 0, .slice none 0 0, .bool false, .int .i64 0, .bool false]) (.agg [.slice none 0 0, .slice none 0 0, .slice none 0 0, .bool false, .int .i64 0, .bool false].toArray) (by kernel_rfl) rfl ?_
  clear HS
  intro g8 w9 hg10 HS
  refine wpList_nil ?_
  refine fr_at (l' := [.agg ([vs, vb, vp, .bool R.counted, .int .i64 R.left, .bool R.down] : List Value).toArray, .slice A keep.length c, .pointer (some ⟨g5, 0, none⟩), undef, .pointer (some ⟨g8, 0, none⟩), undef, undef, undef, undef, undef, undef, undef, undef]) rfl ?_
  refine hK2 _ _ ?_
  refine wp_seq_k (fun K11 hK12 => ?_)
  refine c_region (fun ops14 hops13 => ?_)
  clear hops13
  refine p_run (l' := _) _ (x_loads [vs, vb, vp, .bool R.counted, .int .i64 R.left, .bool R.down] 6 rfl rfl (bkCells (HS.get (.tail _ (.head _))) 0 _ rfl) (by rfl) (by kernel_rfl) rfl) rfl ?_
  refine p_run (l' := _) _ (x_move (.slice A keep.length c) rfl rfl) rfl ?_
  refine w_call [.agg ([vs, vb, vp, .bool R.counted, .int .i64 R.left, .bool R.down] : List Value).toArray, .slice A keep.length c] Try.func37 (by kernel_rfl) (by rfl) rfl ?_
  replace HS := (((HS.front 4 rfl).front 4 rfl).front 4 rfl)
  refine (rkSettle_any HS hT hpd hpn hsl keep hk0 (fun w X hx => hkeep w (X ++ [_, _]) (by rw [List.append_assoc]; exact hx))).mono ?_
  clear HS
  rintro e w16 ⟨v15, rfl, HS⟩
  obtain ⟨A17, c18, hv19, hcp20, -⟩ := row_reads (HS.get (.head _))
  subst hv19
  obtain ⟨A21, c22, hv23, hcp24, -⟩ := row_reads (HS.get (.tail _ (.head _)))
  subst hv23
  refine ⟨_, rfl, ?_⟩
  refine St.stores (cs' := [.slice A17 (((R.settle keep).stable).length) c18, .slice A21 (((R.settle keep).bad).length) c22, .slice none 0 0, .bool ((R.settle keep).counted), .int .i64 ((R.settle keep).left), .bool ((R.settle keep).down)]) (HS.front 4 rfl) [.slice A17 (((R.settle keep).stable).length) c18, .slice A21 (((R.settle keep).bad).length) c22, .slice none 0 0, .bool ((R.settle keep).counted), .int .i64 ((R.settle keep).left), .bool ((R.settle keep).down)] 6 rfl rfl (by rfl) (by kernel_rfl) rfl (by simp) rfl ?_
  clear HS
  intro w25 HS
  refine wpList_nil ?_
  refine fr_at (l' := [.agg ([vs, .slice A21 (((R.settle keep).bad).length) c22, vp, .bool R.counted, .int .i64 R.left, .bool R.down] : List Value).toArray, .slice A keep.length c, .pointer (some ⟨g5, 0, none⟩), undef, .pointer (some ⟨g8, 0, none⟩), .agg ([vs, .slice A21 (((R.settle keep).bad).length) c22, vp, .bool R.counted, .int .i64 R.left, .bool R.down] : List Value).toArray, .slice A keep.length c, .agg ([.slice A17 (((R.settle keep).stable).length) c18, .slice A21 (((R.settle keep).bad).length) c22, .slice none 0 0, .bool ((R.settle keep).counted), .int .i64 ((R.settle keep).left), .bool ((R.settle keep).down)] : List Value).toArray, undef, undef, undef, undef, undef]) rfl ?_
  refine hK12 _ _ ?_
  refine wp_seq_k (fun K26 hK27 => ?_)
  refine c_region (fun ops29 hops28 => ?_)
  clear hops28
  refine p_run (l' := _) _ (x_field (j := 0) _ _ rfl rfl Try.underlying51 rfl (by rfl) rfl) rfl ?_
  refine p_run (l' := _) _ (x_load (.slice A17 (((R.settle keep).stable).length) c18) rfl rfl (bkCell (HS.get (.head _)) 0 _ rfl) (by rfl)) rfl ?_
  refine p_run (l' := _) _ (x_field (j := 1) _ _ rfl rfl Try.underlying51 rfl (by rfl) rfl) rfl ?_
  refine p_run (l' := [.agg ([vs, .slice A21 (((R.settle keep).bad).length) c22, vp, .bool R.counted, .int .i64 R.left, .bool R.down] : List Value).toArray, .slice A keep.length c, .pointer (some ⟨g5, 0, none⟩), undef, .pointer (some ⟨g8, 0, none⟩), .agg ([vs, .slice A21 (((R.settle keep).bad).length) c22, vp, .bool R.counted, .int .i64 R.left, .bool R.down] : List Value).toArray, .slice A keep.length c, .agg ([.slice A17 (((R.settle keep).stable).length) c18, .slice A21 (((R.settle keep).bad).length) c22, .slice none 0 0, .bool ((R.settle keep).counted), .int .i64 ((R.settle keep).left), .bool ((R.settle keep).down)] : List Value).toArray, .pointer (some ⟨g5, 0, none⟩), .slice A17 (((R.settle keep).stable).length) c18, .pointer (some ⟨g5, 1, none⟩), .slice A21 (((R.settle keep).bad).length) c22, undef]) _ (x_load (.slice A21 (((R.settle keep).bad).length) c22) rfl rfl (bkCell (HS.get (.head _)) 1 _ rfl) (by rfl)) rfl ?_
  refine p_run (l' := _) _ (x_build [.slice A17 (((R.settle keep).stable).length) c18, .slice A21 (((R.settle keep).bad).length) c22, .slice none 0 0, .bool false, .int .i64 0, .bool false] rfl (by kernel_rfl)) rfl ?_
  refine St.stores (cs' := [.slice A17 (((R.settle keep).stable).length) c18, .slice A21 (((R.settle keep).bad).length) c22, .slice none 0 0, .bool false, .int .i64 0, .bool false]) (HS.front 4 rfl) [.slice A17 (((R.settle keep).stable).length) c18, .slice A21 (((R.settle keep).bad).length) c22, .slice none 0 0, .bool false, .int .i64 0, .bool false] 6 rfl rfl (by rfl) (by kernel_rfl) rfl (by simp) rfl ?_
  clear HS
  intro w30 HS
  refine wpList_nil ?_
  refine fr_at (l' := [.agg ([vs, .slice A21 (((R.settle keep).bad).length) c22, vp, .bool R.counted, .int .i64 R.left, .bool R.down] : List Value).toArray, .slice A keep.length c, .pointer (some ⟨g5, 0, none⟩), undef, .pointer (some ⟨g8, 0, none⟩), .agg ([vs, .slice A21 (((R.settle keep).bad).length) c22, vp, .bool R.counted, .int .i64 R.left, .bool R.down] : List Value).toArray, .slice A keep.length c, .agg ([.slice A17 (((R.settle keep).stable).length) c18, .slice A21 (((R.settle keep).bad).length) c22, .slice none 0 0, .bool ((R.settle keep).counted), .int .i64 ((R.settle keep).left), .bool ((R.settle keep).down)] : List Value).toArray, .pointer (some ⟨g5, 0, none⟩), .slice A17 (((R.settle keep).stable).length) c18, .pointer (some ⟨g5, 1, none⟩), .slice A21 (((R.settle keep).bad).length) c22, .agg ([.slice A17 (((R.settle keep).stable).length) c18, .slice A21 (((R.settle keep).bad).length) c22, .slice none 0 0, .bool false, .int .i64 0, .bool false] : List Value).toArray]) rfl ?_
  refine hK27 _ _ ?_
  refine wp_ret ?_
  try simp only [Exit.inBlock, Exit.then]
  refine c_ret (.agg ([.slice A17 (((R.settle keep).stable).length) c18, .slice A21 (((R.settle keep).bad).length) c22, .slice none 0 0, .bool false, .int .i64 0, .bool false] : List Value).toArray) (r_c rfl rfl (run_loadVar_aggn (by rfl) [.slice A17 (((R.settle keep).stable).length) c18, .slice A21 (((R.settle keep).bad).length) c22, .slice none 0 0, .bool false, .int .i64 0, .bool false] 6 (by kernel_rfl) rfl (bkCells (HS.get (.head _)) 0 _ (whole _)))) ?_
  exact ⟨_, rfl, (((HS.drop.drop.front 2 rfl).front 2 rfl).front 2 rfl)⟩

set_option maxRecDepth 10000 in
set_option maxHeartbeats 1000000 in
theorem rkSync_any (HS : St w0 F W (rk vs vb vp R L)) (hT : ∀ p ∈ R.stable, p.length = 256) (hpd : ∀ x ∈ R.pending, 0 ≤ x.1 ∧ x.1 < R.stable.length ∧ x.2.length = 256) (hpn : R.pending.length ≤ 1000) (hsl : R.stable.length ≤ 244) (hl : R.counted = true → 0 ≤ R.left ∧ R.left < 9223372036854775808) : Calls Try.prog 24 #[.agg ([vs, vb, vp, .bool R.counted, .int .i64 R.left, .bool R.down] : List Value).toArray] W fun e w' => ∃ vs' vp', e = .returned (.tuple #[rkV vs' vb vp' R.sync, .int .i64 R.actE]) ∧ St w0 F w' (rk vs' vb vp' R.sync L) := by
  rcases hacts : R.acts with _ | _
  · skip
    have ha : R.actE = 42 := if_neg (by rw [hacts]; decide)
    refine c_enter Try.func24 rfl 28 rfl [.agg ([vs, vb, vp, .bool R.counted, .int .i64 R.left, .bool R.down] : List Value).toArray, undef, undef, undef, undef, undef, undef, undef, undef, undef, undef, undef, undef, undef, undef, undef, undef, undef, undef, undef, undef, undef, undef, undef, undef, undef, undef, undef] rfl ?_
    refine wp_seq_k (fun K1 hK2 => ?_)
    refine c_region (fun ops4 hops3 => ?_)
    clear hops3
    refine St.wBox HS (cs := [vs, vb, vp, .bool R.counted, .int .i64 R.left, .bool R.down]) (.agg ([vs, vb, vp, .bool R.counted, .int .i64 R.left, .bool R.down] : List Value).toArray) rfl rfl ?_
    clear HS
    intro g5 w6 hg7 HS
    refine St.wAlloc HS (cs := [.slice none 0 0, .slice none 0 0, .slice none 0 0, .bool false, .int .i64 0, .bool false]) (.agg [.slice none 0 0, .slice none 0 0, .slice none 0 0, .bool false, .int .i64 0, .bool false].toArray) (by kernel_rfl) rfl ?_
    clear HS
    intro g8 w9 hg10 HS
    refine p_run (l' := _) _ (x_assign (.int .i64 0) rfl rfl) rfl ?_
    refine wpList_nil ?_
    refine fr_at (l' := [.agg ([vs, vb, vp, .bool R.counted, .int .i64 R.left, .bool R.down] : List Value).toArray, .pointer (some ⟨g5, 0, none⟩), .pointer (some ⟨g8, 0, none⟩), .int .i64 0, undef, undef, undef, undef, undef, undef, undef, undef, undef, undef, undef, undef, undef, undef, undef, undef, undef, undef, undef, undef, undef, undef, undef, undef]) rfl ?_
    refine hK2 _ _ ?_
    refine wp_seq_k (fun K11 hK12 => ?_)
    refine c_region (fun ops14 hops13 => ?_)
    clear hops13
    refine p_run (l' := _) _ (x_loads [vs, vb, vp, .bool R.counted, .int .i64 R.left, .bool R.down] 6 rfl rfl (bkCells (HS.get (.tail _ (.head _))) 0 _ rfl) (by rfl) (by kernel_rfl) rfl) rfl ?_
    refine w_call [.agg ([vs, vb, vp, .bool R.counted, .int .i64 R.left, .bool R.down] : List Value).toArray] Try.func36 (by kernel_rfl) (by rfl) rfl ?_
    replace HS := (((HS.front 4 rfl).front 4 rfl).front 4 rfl)
    refine (rkAct_any HS hl).mono ?_
    clear HS
    rintro e w15 ⟨rfl, HS⟩
    refine ⟨_, rfl, ?_⟩
    refine p_run (l' := _) _ (x_move (.tuple [.agg ([vs, vb, vp, .bool R.act.counted, .int .i64 R.act.left, .bool R.act.down] : List Value).toArray, .int .i64 R.actE].toArray) rfl rfl) rfl ?_
    refine p_run (l' := [.agg ([vs, vb, vp, .bool R.counted, .int .i64 R.left, .bool R.down] : List Value).toArray, .pointer (some ⟨g5, 0, none⟩), .pointer (some ⟨g8, 0, none⟩), .int .i64 0, undef, undef, .tuple [.agg ([vs, vb, vp, .bool R.act.counted, .int .i64 R.act.left, .bool R.act.down] : List Value).toArray, .int .i64 R.actE].toArray, .agg ([vs, vb, vp, .bool R.counted, .int .i64 R.left, .bool R.down] : List Value).toArray, .tuple [.agg ([vs, vb, vp, .bool R.act.counted, .int .i64 R.act.left, .bool R.act.down] : List Value).toArray, .int .i64 R.actE].toArray, .agg ([vs, vb, vp, .bool R.act.counted, .int .i64 R.act.left, .bool R.act.down] : List Value).toArray, undef, undef, undef, undef, undef, undef, undef, undef, undef, undef, undef, undef, undef, undef, undef, undef, undef, undef]) _ (x_extract (vs := [.agg ([vs, vb, vp, .bool R.act.counted, .int .i64 R.act.left, .bool R.act.down] : List Value).toArray, .int .i64 R.actE]) 0 (.agg ([vs, vb, vp, .bool R.act.counted, .int .i64 R.act.left, .bool R.act.down] : List Value).toArray) rfl rfl rfl) rfl ?_
    refine p_run (l' := _) _ (x_extract (vs := [.agg ([vs, vb, vp, .bool R.act.counted, .int .i64 R.act.left, .bool R.act.down] : List Value).toArray, .int .i64 R.actE]) 1 (.int .i64 R.actE) rfl rfl rfl) rfl ?_
    refine St.stores (cs' := [vs, vb, vp, .bool R.act.counted, .int .i64 R.act.left, .bool R.act.down]) (HS.front 4 rfl) [vs, vb, vp, .bool R.act.counted, .int .i64 R.act.left, .bool R.act.down] 6 rfl rfl (all1 (row_one (HS.get (.head _))) (all1 (row_one (HS.get (.tail _ (.head _)))) (all1 (row_one (HS.get (.tail _ (.tail _ (.head _))))) (all1 rfl (all1 rfl (all1 rfl rfl)))))) (by kernel_rfl) rfl (by simp) rfl ?_
    clear HS
    intro w16 HS
    refine p_run (l' := _) _ (x_assign (.int .i64 R.actE) rfl rfl) rfl ?_
    refine wpList_nil ?_
    refine fr_at (l' := [.agg ([vs, vb, vp, .bool R.counted, .int .i64 R.left, .bool R.down] : List Value).toArray, .pointer (some ⟨g5, 0, none⟩), .pointer (some ⟨g8, 0, none⟩), .int .i64 0, .int .i64 R.actE, undef, .tuple [.agg ([vs, vb, vp, .bool R.act.counted, .int .i64 R.act.left, .bool R.act.down] : List Value).toArray, .int .i64 R.actE].toArray, .agg ([vs, vb, vp, .bool R.counted, .int .i64 R.left, .bool R.down] : List Value).toArray, .tuple [.agg ([vs, vb, vp, .bool R.act.counted, .int .i64 R.act.left, .bool R.act.down] : List Value).toArray, .int .i64 R.actE].toArray, .agg ([vs, vb, vp, .bool R.act.counted, .int .i64 R.act.left, .bool R.act.down] : List Value).toArray, .int .i64 R.actE, undef, undef, undef, undef, undef, undef, undef, undef, undef, undef, undef, undef, undef, undef, undef, undef, undef]) rfl ?_
    refine hK12 _ _ ?_
    refine wp_seq_k (fun K17 hK18 => ?_)
    refine wp_seq_k (fun K19 hK20 => ?_)
    refine c_region (fun ops22 hops21 => ?_)
    clear hops21
    refine p_run (l' := _) _ (x_move (.int .i64 R.actE) rfl rfl) rfl ?_
    refine p_run (l' := _) _ (x_cmp (k := .i64) (m := R.actE) (n := 0) .neq true rfl rfl rfl (by rw [ha]; rfl) rfl) rfl ?_
    refine wpList_nil ?_
    refine fr_at (l' := [.agg ([vs, vb, vp, .bool R.counted, .int .i64 R.left, .bool R.down] : List Value).toArray, .pointer (some ⟨g5, 0, none⟩), .pointer (some ⟨g8, 0, none⟩), .int .i64 0, .int .i64 R.actE, undef, .tuple [.agg ([vs, vb, vp, .bool R.act.counted, .int .i64 R.act.left, .bool R.act.down] : List Value).toArray, .int .i64 R.actE].toArray, .agg ([vs, vb, vp, .bool R.counted, .int .i64 R.left, .bool R.down] : List Value).toArray, .tuple [.agg ([vs, vb, vp, .bool R.act.counted, .int .i64 R.act.left, .bool R.act.down] : List Value).toArray, .int .i64 R.actE].toArray, .agg ([vs, vb, vp, .bool R.act.counted, .int .i64 R.act.left, .bool R.act.down] : List Value).toArray, .int .i64 R.actE, .int .i64 R.actE, .bool true, undef, undef, undef, undef, undef, undef, undef, undef, undef, undef, undef, undef, undef, undef, undef]) rfl ?_
    refine hK20 _ _ ?_
    refine c_true rfl ?_
    refine wp_seq_k (fun K23 hK24 => ?_)
    refine c_region (fun ops26 hops25 => ?_)
    clear hops25
    refine p_run (l' := _) _ (x_loads [vs, vb, vp, .bool R.act.counted, .int .i64 R.act.left, .bool R.act.down] 6 rfl rfl (bkCells (HS.get (.head _)) 0 _ rfl) (by rfl) (by kernel_rfl) rfl) rfl ?_
    refine p_run (l' := _) _ (x_move (.int .i64 R.actE) rfl rfl) rfl ?_
    refine St.stores (cs' := [vs, vb, vp, .bool R.act.counted, .int .i64 R.act.left, .bool R.act.down]) (HS.front 4 rfl) [vs, vb, vp, .bool R.act.counted, .int .i64 R.act.left, .bool R.act.down] 6 rfl rfl (all1 (row_one (HS.get (.tail _ (.head _)))) (all1 (row_one (HS.get (.tail _ (.tail _ (.head _))))) (all1 (row_one (HS.get (.tail _ (.tail _ (.tail _ (.head _)))))) (all1 rfl (all1 rfl (all1 rfl rfl)))))) (by kernel_rfl) rfl (by simp) rfl ?_
    clear HS
    intro w27 HS
    refine p_run (l' := _) _ (x_assign (.int .i64 R.actE) rfl rfl) rfl ?_
    refine wpList_nil ?_
    refine fr_at (l' := [.agg ([vs, vb, vp, .bool R.counted, .int .i64 R.left, .bool R.down] : List Value).toArray, .pointer (some ⟨g5, 0, none⟩), .pointer (some ⟨g8, 0, none⟩), .int .i64 R.actE, .int .i64 R.actE, undef, .tuple [.agg ([vs, vb, vp, .bool R.act.counted, .int .i64 R.act.left, .bool R.act.down] : List Value).toArray, .int .i64 R.actE].toArray, .agg ([vs, vb, vp, .bool R.counted, .int .i64 R.left, .bool R.down] : List Value).toArray, .tuple [.agg ([vs, vb, vp, .bool R.act.counted, .int .i64 R.act.left, .bool R.act.down] : List Value).toArray, .int .i64 R.actE].toArray, .agg ([vs, vb, vp, .bool R.act.counted, .int .i64 R.act.left, .bool R.act.down] : List Value).toArray, .int .i64 R.actE, .int .i64 R.actE, .bool true, .agg ([vs, vb, vp, .bool R.act.counted, .int .i64 R.act.left, .bool R.act.down] : List Value).toArray, .int .i64 R.actE, undef, undef, undef, undef, undef, undef, undef, undef, undef, undef, undef, undef, undef]) rfl ?_
    refine hK24 _ _ ?_
    refine wp_ret ?_
    try simp only [Exit.inBlock, Exit.then]
    refine c_ret (.tuple [.agg ([vs, vb, vp, .bool R.act.counted, .int .i64 R.act.left, .bool R.act.down] : List Value).toArray, .int .i64 R.actE].toArray) (r_ct rfl rfl (run_loadVar_aggn (by rfl) [vs, vb, vp, .bool R.act.counted, .int .i64 R.act.left, .bool R.act.down] 6 (by kernel_rfl) rfl (bkCells (HS.get (.head _)) 0 _ (whole _))) rfl) ?_
    have e1 : R.sync = R.act := by unfold Rk.sync; rw [if_neg (by rw [hacts]; decide)]
    rw [e1]
    exact ⟨vs, vp, rfl, (((HS.drop.drop.front 2 rfl).front 2 rfl).front 2 rfl)⟩
  · skip
    have ha : R.actE = 0 := if_pos hacts
    obtain ⟨Ap, cp, hvp, hcp, -⟩ := row_reads (HS.get (.tail _ (.tail _ (.head _))))
    subst hvp
    refine c_enter Try.func24 rfl 28 rfl [.agg ([vs, vb, .slice Ap R.pending.length cp, .bool R.counted, .int .i64 R.left, .bool R.down] : List Value).toArray, undef, undef, undef, undef, undef, undef, undef, undef, undef, undef, undef, undef, undef, undef, undef, undef, undef, undef, undef, undef, undef, undef, undef, undef, undef, undef, undef] rfl ?_
    refine wp_seq_k (fun K1 hK2 => ?_)
    refine c_region (fun ops4 hops3 => ?_)
    clear hops3
    refine St.wBox HS (cs := [vs, vb, .slice Ap R.pending.length cp, .bool R.counted, .int .i64 R.left, .bool R.down]) (.agg ([vs, vb, .slice Ap R.pending.length cp, .bool R.counted, .int .i64 R.left, .bool R.down] : List Value).toArray) rfl rfl ?_
    clear HS
    intro g5 w6 hg7 HS
    refine St.wAlloc HS (cs := [.slice none 0 0, .slice none 0 0, .slice none 0 0, .bool false, .int .i64 0, .bool false]) (.agg [.slice none 0 0, .slice none 0 0, .slice none 0 0, .bool false, .int .i64 0, .bool false].toArray) (by kernel_rfl) rfl ?_
    clear HS
    intro g8 w9 hg10 HS
    refine p_run (l' := _) _ (x_assign (.int .i64 0) rfl rfl) rfl ?_
    refine wpList_nil ?_
    refine fr_at (l' := [.agg ([vs, vb, .slice Ap R.pending.length cp, .bool R.counted, .int .i64 R.left, .bool R.down] : List Value).toArray, .pointer (some ⟨g5, 0, none⟩), .pointer (some ⟨g8, 0, none⟩), .int .i64 0, undef, undef, undef, undef, undef, undef, undef, undef, undef, undef, undef, undef, undef, undef, undef, undef, undef, undef, undef, undef, undef, undef, undef, undef]) rfl ?_
    refine hK2 _ _ ?_
    refine wp_seq_k (fun K11 hK12 => ?_)
    refine c_region (fun ops14 hops13 => ?_)
    clear hops13
    refine p_run (l' := _) _ (x_loads [vs, vb, .slice Ap R.pending.length cp, .bool R.counted, .int .i64 R.left, .bool R.down] 6 rfl rfl (bkCells (HS.get (.tail _ (.head _))) 0 _ rfl) (by rfl) (by kernel_rfl) rfl) rfl ?_
    refine w_call [.agg ([vs, vb, .slice Ap R.pending.length cp, .bool R.counted, .int .i64 R.left, .bool R.down] : List Value).toArray] Try.func36 (by kernel_rfl) (by rfl) rfl ?_
    replace HS := (((HS.front 4 rfl).front 4 rfl).front 4 rfl)
    refine (rkAct_any HS hl).mono ?_
    clear HS
    rintro e w15 ⟨rfl, HS⟩
    refine ⟨_, rfl, ?_⟩
    refine p_run (l' := _) _ (x_move (.tuple [.agg ([vs, vb, .slice Ap R.pending.length cp, .bool R.act.counted, .int .i64 R.act.left, .bool R.act.down] : List Value).toArray, .int .i64 R.actE].toArray) rfl rfl) rfl ?_
    refine p_run (l' := [.agg ([vs, vb, .slice Ap R.pending.length cp, .bool R.counted, .int .i64 R.left, .bool R.down] : List Value).toArray, .pointer (some ⟨g5, 0, none⟩), .pointer (some ⟨g8, 0, none⟩), .int .i64 0, undef, undef, .tuple [.agg ([vs, vb, .slice Ap R.pending.length cp, .bool R.act.counted, .int .i64 R.act.left, .bool R.act.down] : List Value).toArray, .int .i64 R.actE].toArray, .agg ([vs, vb, .slice Ap R.pending.length cp, .bool R.counted, .int .i64 R.left, .bool R.down] : List Value).toArray, .tuple [.agg ([vs, vb, .slice Ap R.pending.length cp, .bool R.act.counted, .int .i64 R.act.left, .bool R.act.down] : List Value).toArray, .int .i64 R.actE].toArray, .agg ([vs, vb, .slice Ap R.pending.length cp, .bool R.act.counted, .int .i64 R.act.left, .bool R.act.down] : List Value).toArray, undef, undef, undef, undef, undef, undef, undef, undef, undef, undef, undef, undef, undef, undef, undef, undef, undef, undef]) _ (x_extract (vs := [.agg ([vs, vb, .slice Ap R.pending.length cp, .bool R.act.counted, .int .i64 R.act.left, .bool R.act.down] : List Value).toArray, .int .i64 R.actE]) 0 (.agg ([vs, vb, .slice Ap R.pending.length cp, .bool R.act.counted, .int .i64 R.act.left, .bool R.act.down] : List Value).toArray) rfl rfl rfl) rfl ?_
    refine p_run (l' := _) _ (x_extract (vs := [.agg ([vs, vb, .slice Ap R.pending.length cp, .bool R.act.counted, .int .i64 R.act.left, .bool R.act.down] : List Value).toArray, .int .i64 R.actE]) 1 (.int .i64 R.actE) rfl rfl rfl) rfl ?_
    refine St.stores (cs' := [vs, vb, .slice Ap R.pending.length cp, .bool R.act.counted, .int .i64 R.act.left, .bool R.act.down]) (HS.front 4 rfl) [vs, vb, .slice Ap R.pending.length cp, .bool R.act.counted, .int .i64 R.act.left, .bool R.act.down] 6 rfl rfl (all1 (row_one (HS.get (.head _))) (all1 (row_one (HS.get (.tail _ (.head _)))) (all1 rfl (all1 rfl (all1 rfl (all1 rfl rfl)))))) (by kernel_rfl) rfl (by simp) rfl ?_
    clear HS
    intro w16 HS
    refine p_run (l' := _) _ (x_assign (.int .i64 R.actE) rfl rfl) rfl ?_
    refine wpList_nil ?_
    refine fr_at (l' := [.agg ([vs, vb, .slice Ap R.pending.length cp, .bool R.counted, .int .i64 R.left, .bool R.down] : List Value).toArray, .pointer (some ⟨g5, 0, none⟩), .pointer (some ⟨g8, 0, none⟩), .int .i64 0, .int .i64 R.actE, undef, .tuple [.agg ([vs, vb, .slice Ap R.pending.length cp, .bool R.act.counted, .int .i64 R.act.left, .bool R.act.down] : List Value).toArray, .int .i64 R.actE].toArray, .agg ([vs, vb, .slice Ap R.pending.length cp, .bool R.counted, .int .i64 R.left, .bool R.down] : List Value).toArray, .tuple [.agg ([vs, vb, .slice Ap R.pending.length cp, .bool R.act.counted, .int .i64 R.act.left, .bool R.act.down] : List Value).toArray, .int .i64 R.actE].toArray, .agg ([vs, vb, .slice Ap R.pending.length cp, .bool R.act.counted, .int .i64 R.act.left, .bool R.act.down] : List Value).toArray, .int .i64 R.actE, undef, undef, undef, undef, undef, undef, undef, undef, undef, undef, undef, undef, undef, undef, undef, undef, undef]) rfl ?_
    refine hK12 _ _ ?_
    refine wp_seq_k (fun K17 hK18 => ?_)
    refine wp_seq_k (fun K19 hK20 => ?_)
    refine c_region (fun ops22 hops21 => ?_)
    clear hops21
    refine p_run (l' := _) _ (x_move (.int .i64 R.actE) rfl rfl) rfl ?_
    refine p_run (l' := _) _ (x_cmp (k := .i64) (m := R.actE) (n := 0) .neq false rfl rfl rfl (by rw [ha]; rfl) rfl) rfl ?_
    refine wpList_nil ?_
    refine fr_at (l' := [.agg ([vs, vb, .slice Ap R.pending.length cp, .bool R.counted, .int .i64 R.left, .bool R.down] : List Value).toArray, .pointer (some ⟨g5, 0, none⟩), .pointer (some ⟨g8, 0, none⟩), .int .i64 0, .int .i64 R.actE, undef, .tuple [.agg ([vs, vb, .slice Ap R.pending.length cp, .bool R.act.counted, .int .i64 R.act.left, .bool R.act.down] : List Value).toArray, .int .i64 R.actE].toArray, .agg ([vs, vb, .slice Ap R.pending.length cp, .bool R.counted, .int .i64 R.left, .bool R.down] : List Value).toArray, .tuple [.agg ([vs, vb, .slice Ap R.pending.length cp, .bool R.act.counted, .int .i64 R.act.left, .bool R.act.down] : List Value).toArray, .int .i64 R.actE].toArray, .agg ([vs, vb, .slice Ap R.pending.length cp, .bool R.act.counted, .int .i64 R.act.left, .bool R.act.down] : List Value).toArray, .int .i64 R.actE, .int .i64 R.actE, .bool false, undef, undef, undef, undef, undef, undef, undef, undef, undef, undef, undef, undef, undef, undef, undef]) rfl ?_
    refine hK20 _ _ ?_
    refine c_false rfl ?_
    refine wp_skip ?_
    refine hK18 _ _ ?_
    refine wp_seq_k (fun K23 hK24 => ?_)
    refine c_region (fun ops26 hops25 => ?_)
    clear hops25
    refine St.wLit0 HS (Kd.int .u8) rfl 1 (.int .u8 0) Try.underlying36 (by kernel_rfl) ?_
    clear HS
    intro v27 w28 HS
    refine p_run (l' := _) _ (x_assign (v27) rfl rfl) rfl ?_
    refine wpList_nil ?_
    refine fr_at (l' := [.agg ([vs, vb, .slice Ap R.pending.length cp, .bool R.counted, .int .i64 R.left, .bool R.down] : List Value).toArray, .pointer (some ⟨g5, 0, none⟩), .pointer (some ⟨g8, 0, none⟩), .int .i64 0, .int .i64 R.actE, v27, .tuple [.agg ([vs, vb, .slice Ap R.pending.length cp, .bool R.act.counted, .int .i64 R.act.left, .bool R.act.down] : List Value).toArray, .int .i64 R.actE].toArray, .agg ([vs, vb, .slice Ap R.pending.length cp, .bool R.counted, .int .i64 R.left, .bool R.down] : List Value).toArray, .tuple [.agg ([vs, vb, .slice Ap R.pending.length cp, .bool R.act.counted, .int .i64 R.act.left, .bool R.act.down] : List Value).toArray, .int .i64 R.actE].toArray, .agg ([vs, vb, .slice Ap R.pending.length cp, .bool R.act.counted, .int .i64 R.act.left, .bool R.act.down] : List Value).toArray, .int .i64 R.actE, .int .i64 R.actE, .bool false, undef, undef, v27, undef, undef, undef, undef, undef, undef, undef, undef, undef, undef, undef, undef]) rfl ?_
    refine hK24 _ _ ?_
    refine wp_seq_k (fun K29 hK30 => ?_)
    refine wp_seq_k (fun K31 hK32 => ?_)
    refine c_region (fun ops34 hops33 => ?_)
    clear hops33
    refine p_run (l' := _) _ (x_field (j := 2) _ _ rfl rfl Try.underlying51 rfl (by rfl) rfl) rfl ?_
    refine p_run (l' := _) _ (x_load (.slice Ap R.pending.length cp) rfl rfl (bkCell (HS.get (.tail _ (.head _))) 2 _ rfl) (by rfl)) rfl ?_
    refine p_run (l' := _) _ (x_len rfl rfl Try.underlying49) rfl ?_
    refine p_run (l' := [.agg ([vs, vb, .slice Ap R.pending.length cp, .bool R.counted, .int .i64 R.left, .bool R.down] : List Value).toArray, .pointer (some ⟨g5, 0, none⟩), .pointer (some ⟨g8, 0, none⟩), .int .i64 0, .int .i64 R.actE, v27, .tuple [.agg ([vs, vb, .slice Ap R.pending.length cp, .bool R.act.counted, .int .i64 R.act.left, .bool R.act.down] : List Value).toArray, .int .i64 R.actE].toArray, .agg ([vs, vb, .slice Ap R.pending.length cp, .bool R.counted, .int .i64 R.left, .bool R.down] : List Value).toArray, .tuple [.agg ([vs, vb, .slice Ap R.pending.length cp, .bool R.act.counted, .int .i64 R.act.left, .bool R.act.down] : List Value).toArray, .int .i64 R.actE].toArray, .agg ([vs, vb, .slice Ap R.pending.length cp, .bool R.act.counted, .int .i64 R.act.left, .bool R.act.down] : List Value).toArray, .int .i64 R.actE, .int .i64 R.actE, .bool false, undef, undef, v27, .pointer (some ⟨g5, 2, none⟩), .slice Ap R.pending.length cp, .int .i64 (R.pending.length : Int), .int .i64 0, undef, undef, undef, undef, undef, undef, undef, undef]) _ (x_move (.int .i64 0) rfl rfl) rfl ?_
    refine wpList_nil ?_
    refine hK32 _ _ ?_
    refine wp_block ?_
    refine c_loop (ι := Nat × Value) (fun i_ a_ w_ => match i_ with | (j, u) => ∃ (u20 : Value) (u21 : Value) (u22 : Value) (u23 : Value) (u24 : Value), a_ = fr [.agg ([vs, vb, .slice Ap R.pending.length cp, .bool R.counted, .int .i64 R.left, .bool R.down] : List Value).toArray, .pointer (some ⟨g5, 0, none⟩), .pointer (some ⟨g8, 0, none⟩), .int .i64 0, .int .i64 R.actE, u, .tuple [.agg ([vs, vb, .slice Ap R.pending.length cp, .bool R.act.counted, .int .i64 R.act.left, .bool R.act.down] : List Value).toArray, .int .i64 R.actE].toArray, .agg ([vs, vb, .slice Ap R.pending.length cp, .bool R.counted, .int .i64 R.left, .bool R.down] : List Value).toArray, .tuple [.agg ([vs, vb, .slice Ap R.pending.length cp, .bool R.act.counted, .int .i64 R.act.left, .bool R.act.down] : List Value).toArray, .int .i64 R.actE].toArray, .agg ([vs, vb, .slice Ap R.pending.length cp, .bool R.act.counted, .int .i64 R.act.left, .bool R.act.down] : List Value).toArray, .int .i64 R.actE, .int .i64 R.actE, .bool false, undef, undef, v27, .pointer (some ⟨g5, 2, none⟩), .slice Ap R.pending.length cp, .int .i64 (R.pending.length : Int), .int .i64 (j : Int), u20, u21, u22, u23, u24, undef, undef, undef] ∧ St w0 F w_ (row (Kd.int .u8) rfl 5 u (List.replicate j (255 : Int)) :: blk g5 [vs, vb, .slice Ap R.pending.length cp, .bool R.act.counted, .int .i64 R.act.left, .bool R.act.down] 51 :: row kPg rfl 31 vs R.act.stable :: row Kd.bool rfl 4 vb R.act.bad :: row kWr rfl 74 (.slice Ap R.pending.length cp) R.act.pending :: blk g8 [.slice none 0 0, .slice none 0 0, .slice none 0 0, .bool false, .int .i64 0, .bool false] 51 :: L) ∧ (j ≤ R.pending.length)) (fun i_ => match i_ with | (j, u) => R.pending.length - j) (0, v27) ?_ ?_
    · exact ⟨_, _, _, _, _, rfl, ((((((HS.front 5 rfl).front 5 rfl).front 5 rfl).front 5 rfl).front 5 rfl).front 5 rfl), Nat.zero_le _⟩
    · clear HS
      rintro ⟨j, u⟩ a_ w37 ⟨u20, u21, u22, u23, u24, rfl, HS, hI⟩ J35 hJ36
      have hjl := hI
      refine wp_seq_k (fun K38 hK39 => ?_)
      refine c_region (fun ops41 hops40 => ?_)
      clear hops40
      refine p_run (l' := _) _ (x_cmp (k := .i64) (m := (j : Int)) (n := (R.pending.length : Int)) .lss (decide ((j : Int) < (R.pending.length : Int))) rfl rfl rfl rfl rfl) rfl ?_
      refine wpList_nil ?_
      refine fr_at (l' := [.agg ([vs, vb, .slice Ap R.pending.length cp, .bool R.counted, .int .i64 R.left, .bool R.down] : List Value).toArray, .pointer (some ⟨g5, 0, none⟩), .pointer (some ⟨g8, 0, none⟩), .int .i64 0, .int .i64 R.actE, u, .tuple [.agg ([vs, vb, .slice Ap R.pending.length cp, .bool R.act.counted, .int .i64 R.act.left, .bool R.act.down] : List Value).toArray, .int .i64 R.actE].toArray, .agg ([vs, vb, .slice Ap R.pending.length cp, .bool R.counted, .int .i64 R.left, .bool R.down] : List Value).toArray, .tuple [.agg ([vs, vb, .slice Ap R.pending.length cp, .bool R.act.counted, .int .i64 R.act.left, .bool R.act.down] : List Value).toArray, .int .i64 R.actE].toArray, .agg ([vs, vb, .slice Ap R.pending.length cp, .bool R.act.counted, .int .i64 R.act.left, .bool R.act.down] : List Value).toArray, .int .i64 R.actE, .int .i64 R.actE, .bool false, undef, undef, v27, .pointer (some ⟨g5, 2, none⟩), .slice Ap R.pending.length cp, .int .i64 (R.pending.length : Int), .int .i64 (j : Int), .bool (decide ((j : Int) < (R.pending.length : Int))), u21, u22, u23, u24, undef, undef, undef]) rfl ?_
      refine hK39 _ _ ?_
      refine wp_seq_k (fun K42 hK43 => ?_)
      refine c_cond (t := decide ((j : Int) < (R.pending.length : Int))) rfl (fun hc44 => ?_) (fun hc44 => ?_)
      · have hlt : j < R.pending.length := by have := of_decide_eq_true hc44; omega
        refine wp_skip ?_
        refine hK43 _ _ ?_
        refine wp_seq_k (fun K45 hK46 => ?_)
        refine wp_block ?_
        refine c_region (fun ops48 hops47 => ?_)
        clear hops47
        refine p_run (l' := _) _ (x_move (u) rfl rfl) rfl ?_
        refine St.wLit1 HS [.int .u8 255] 1 (.int .u8 0) (.int .u8 255) Try.underlying36 (by kernel_rfl) (by decide) rfl rfl rfl ?_
        clear HS
        intro g49 w50 hg51 HS
        replace HS := (HS.front 1 rfl)
        refine St.wAppend HS (.int .u8 0) 1 Try.underlying36 (by kernel_rfl) rfl (by decide) (by decide) [255] _ _ _ rfl rfl (ints_reads (HS.get (.tail _ (.head _))) rfl (by simp)) (fun _ _ h => h) (by simp; omega) ?_
        clear HS
        intro v52 w53 HS
        refine p_run (l' := [.agg ([vs, vb, .slice Ap R.pending.length cp, .bool R.counted, .int .i64 R.left, .bool R.down] : List Value).toArray, .pointer (some ⟨g5, 0, none⟩), .pointer (some ⟨g8, 0, none⟩), .int .i64 0, .int .i64 R.actE, v52, .tuple [.agg ([vs, vb, .slice Ap R.pending.length cp, .bool R.act.counted, .int .i64 R.act.left, .bool R.act.down] : List Value).toArray, .int .i64 R.actE].toArray, .agg ([vs, vb, .slice Ap R.pending.length cp, .bool R.counted, .int .i64 R.left, .bool R.down] : List Value).toArray, .tuple [.agg ([vs, vb, .slice Ap R.pending.length cp, .bool R.act.counted, .int .i64 R.act.left, .bool R.act.down] : List Value).toArray, .int .i64 R.actE].toArray, .agg ([vs, vb, .slice Ap R.pending.length cp, .bool R.act.counted, .int .i64 R.act.left, .bool R.act.down] : List Value).toArray, .int .i64 R.actE, .int .i64 R.actE, .bool false, undef, undef, v27, .pointer (some ⟨g5, 2, none⟩), .slice Ap R.pending.length cp, .int .i64 (R.pending.length : Int), .int .i64 (j : Int), .bool (decide ((j : Int) < (R.pending.length : Int))), u, .slice (some ⟨g49, 0, none⟩) 1 1, v52, u24, undef, undef, undef]) _ (x_assign (v52) rfl rfl) rfl ?_
        refine wpList_nil ?_
        refine hK46 _ _ ?_
        refine c_region (fun ops55 hops54 => ?_)
        clear hops54
        refine p_run (l' := _) _ (x_arith (k := .i64) (m := (j : Int)) (n := 1) .add (((j + 1 : Nat) : Int)) rfl rfl rfl (show IntKind.i64.wrap ((j : Int) + 1) = ((j + 1 : Nat) : Int) from ((wr64 (by omega)).trans (by omega))) rfl) rfl ?_
        refine p_run (l' := _) _ (x_move (.int .i64 ((j + 1 : Nat) : Int)) rfl rfl) rfl ?_
        refine wpList_nil ?_
        refine fr_at (l' := [.agg ([vs, vb, .slice Ap R.pending.length cp, .bool R.counted, .int .i64 R.left, .bool R.down] : List Value).toArray, .pointer (some ⟨g5, 0, none⟩), .pointer (some ⟨g8, 0, none⟩), .int .i64 0, .int .i64 R.actE, v52, .tuple [.agg ([vs, vb, .slice Ap R.pending.length cp, .bool R.act.counted, .int .i64 R.act.left, .bool R.act.down] : List Value).toArray, .int .i64 R.actE].toArray, .agg ([vs, vb, .slice Ap R.pending.length cp, .bool R.counted, .int .i64 R.left, .bool R.down] : List Value).toArray, .tuple [.agg ([vs, vb, .slice Ap R.pending.length cp, .bool R.act.counted, .int .i64 R.act.left, .bool R.act.down] : List Value).toArray, .int .i64 R.actE].toArray, .agg ([vs, vb, .slice Ap R.pending.length cp, .bool R.act.counted, .int .i64 R.act.left, .bool R.act.down] : List Value).toArray, .int .i64 R.actE, .int .i64 R.actE, .bool false, undef, undef, v27, .pointer (some ⟨g5, 2, none⟩), .slice Ap R.pending.length cp, .int .i64 (R.pending.length : Int), .int .i64 ((j + 1 : Nat) : Int), .bool (decide ((j : Int) < (R.pending.length : Int))), u, .slice (some ⟨g49, 0, none⟩) 1 1, v52, .int .i64 ((j + 1 : Nat) : Int), undef, undef, undef]) rfl ?_
        rw [← List.replicate_succ'] at HS
        refine hJ36 (j + 1, v52) _ _ ?_ ?_
        · show R.pending.length - (j + 1) < R.pending.length - j; omega
        · exact ⟨_, _, _, _, _, rfl, (((((((HS.front 1 rfl).drop.front 5 rfl).front 5 rfl).front 5 rfl).front 5 rfl).front 5 rfl).front 5 rfl), (by omega)⟩
      · obtain rfl : R.pending.length = j := by have := of_decide_eq_false hc44; omega
        obtain ⟨A56, c57, hv58, hcp59, -⟩ := row_reads (HS.get (.head _))
        subst hv58
        refine wp_exit ?_
        refine hK30 _ _ ?_
        refine wp_seq_k (fun K60 hK61 => ?_)
        refine c_region (fun ops63 hops62 => ?_)
        clear hops62
        refine p_run (l' := _) _ (x_loads [vs, vb, .slice Ap R.pending.length cp, .bool R.act.counted, .int .i64 R.act.left, .bool R.act.down] 6 rfl rfl (bkCells (HS.get (.tail _ (.head _))) 0 _ rfl) (by rfl) (by kernel_rfl) rfl) rfl ?_
        refine p_run (l' := _) _ (x_move (.slice A56 ((List.replicate R.pending.length (255 : Int)).length) c57) rfl rfl) rfl ?_
        refine w_call [.agg ([vs, vb, .slice Ap R.pending.length cp, .bool R.act.counted, .int .i64 R.act.left, .bool R.act.down] : List Value).toArray, .slice A56 ((List.replicate R.pending.length (255 : Int)).length) c57] Try.func37 (by kernel_rfl) (by rfl) rfl ?_
        replace HS := (((HS.front 4 rfl).front 4 rfl).front 4 rfl)
        refine (rkSettle_any HS (by rw [rk_stable]; exact hT) (by rw [rk_stable, rk_pend]; exact hpd) (by rw [rk_pend]; exact hpn) (by rw [rk_stable]; exact hsl) (List.replicate R.pending.length (255 : Int)) (fun z hz => by rw [(List.mem_replicate.1 hz).2]; decide) (fun w X hx => (row_C (hx.hs.right.1 _ (.head _))).2.2)).mono ?_
        clear HS
        rintro e w65 ⟨v64, rfl, HS⟩
        refine ⟨_, rfl, ?_⟩
        refine St.stores (cs' := [v64, vb, .slice none 0 0, .bool ((R.act.settle (List.replicate R.pending.length (255 : Int))).counted), .int .i64 ((R.act.settle (List.replicate R.pending.length (255 : Int))).left), .bool ((R.act.settle (List.replicate R.pending.length (255 : Int))).down)]) (HS.front 5 rfl) [v64, vb, .slice none 0 0, .bool ((R.act.settle (List.replicate R.pending.length (255 : Int))).counted), .int .i64 ((R.act.settle (List.replicate R.pending.length (255 : Int))).left), .bool ((R.act.settle (List.replicate R.pending.length (255 : Int))).down)] 6 rfl rfl (all1 (row_one (HS.get (.head _))) (all1 (row_one (HS.get (.tail _ (.head _)))) (all1 rfl (all1 rfl (all1 rfl (all1 rfl rfl)))))) (by kernel_rfl) rfl (by simp) rfl ?_
        clear HS
        intro w66 HS
        refine p_run (l' := [.agg ([vs, vb, .slice Ap R.pending.length cp, .bool R.counted, .int .i64 R.left, .bool R.down] : List Value).toArray, .pointer (some ⟨g5, 0, none⟩), .pointer (some ⟨g8, 0, none⟩), .int .i64 0, .int .i64 R.actE, .slice A56 ((List.replicate R.pending.length (255 : Int)).length) c57, .tuple [.agg ([vs, vb, .slice Ap R.pending.length cp, .bool R.act.counted, .int .i64 R.act.left, .bool R.act.down] : List Value).toArray, .int .i64 R.actE].toArray, .agg ([vs, vb, .slice Ap R.pending.length cp, .bool R.counted, .int .i64 R.left, .bool R.down] : List Value).toArray, .tuple [.agg ([vs, vb, .slice Ap R.pending.length cp, .bool R.act.counted, .int .i64 R.act.left, .bool R.act.down] : List Value).toArray, .int .i64 R.actE].toArray, .agg ([vs, vb, .slice Ap R.pending.length cp, .bool R.act.counted, .int .i64 R.act.left, .bool R.act.down] : List Value).toArray, .int .i64 R.actE, .int .i64 R.actE, .bool false, undef, undef, v27, .pointer (some ⟨g5, 2, none⟩), .slice Ap R.pending.length cp, .int .i64 (R.pending.length : Int), .int .i64 (R.pending.length : Int), .bool (decide ((R.pending.length : Int) < (R.pending.length : Int))), u21, u22, u23, u24, .agg ([vs, vb, .slice Ap R.pending.length cp, .bool R.act.counted, .int .i64 R.act.left, .bool R.act.down] : List Value).toArray, .slice A56 ((List.replicate R.pending.length (255 : Int)).length) c57, .agg ([v64, vb, .slice none 0 0, .bool ((R.act.settle (List.replicate R.pending.length (255 : Int))).counted), .int .i64 ((R.act.settle (List.replicate R.pending.length (255 : Int))).left), .bool ((R.act.settle (List.replicate R.pending.length (255 : Int))).down)] : List Value).toArray]) _ (x_assign (.int .i64 0) rfl rfl) rfl ?_
        refine wpList_nil ?_
        refine hK61 _ _ ?_
        refine wp_ret ?_
        try simp only [Exit.inBlock, Exit.then]
        refine c_ret (.tuple [.agg ([v64, vb, .slice none 0 0, .bool ((R.act.settle (List.replicate R.pending.length (255 : Int))).counted), .int .i64 ((R.act.settle (List.replicate R.pending.length (255 : Int))).left), .bool ((R.act.settle (List.replicate R.pending.length (255 : Int))).down)] : List Value).toArray, .int .i64 0].toArray) (r_ct rfl rfl (run_loadVar_aggn (by rfl) [v64, vb, .slice none 0 0, .bool ((R.act.settle (List.replicate R.pending.length (255 : Int))).counted), .int .i64 ((R.act.settle (List.replicate R.pending.length (255 : Int))).left), .bool ((R.act.settle (List.replicate R.pending.length (255 : Int))).down)] 6 (by kernel_rfl) rfl (bkCells (HS.get (.head _)) 0 _ (whole _))) rfl) ?_
        have e1 : R.sync = R.act.settle (List.replicate R.pending.length 255) := by unfold Rk.sync; rw [if_pos hacts, rk_pend]
        rw [e1, ha]
        exact ⟨_, _, rfl, (((((HS.drop.front 3 rfl).drop.front 3 rfl).drop.front 2 rfl).front 2 rfl).front 2 rfl)⟩
end
end Go.Proofs.Ytjholgfaipfmbaa
