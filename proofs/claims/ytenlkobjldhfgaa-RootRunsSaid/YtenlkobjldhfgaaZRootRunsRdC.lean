/- Several texts in one: Rd6, Rd7, Rd8. -/
import Derived.Test.YtenlkobjldhfgaaZRootRunsRdB
import Derived.Test.YtenlkobjldhfgaaZRootRunsRdA
import Derived.Test.YtenlkobjldhfgaaZRootRunsV8
set_option linter.unusedVariables false
set_option linter.unusedSimpArgs false
namespace Go.Proofs.Ytenlkobjldhfgaa
open Go.RowKit Go.Proofs.YtenlkobjldhfgaaW.PrintWords Go.Proofs.YtenlkobjldhfgaaW.PrintLast
abbrev U4vrd6 (l : List Value) : List Value := undef :: undef :: undef :: undef :: l
abbrev U8vrd6 (l : List Value) : List Value := U4vrd6 (U4vrd6 l)
abbrev U16vrd6 (l : List Value) : List Value := U8vrd6 (U8vrd6 l)
section
variable {w0 W : World} {F : Nat → Prop} {L : List Res} {vs vb vp : Value} {R : Rk}
def Rk.crash (R : Rk) (keep : List Int) : Rk := { stable := (R.settle keep).stable, bad := R.bad, pending := [], counted := false, left := 0, down := false }
def Rk.sync (R : Rk) : Rk := if R.acts = true then R.act.settle (List.replicate R.act.pending.length 255) else R.act
set_option maxRecDepth 10000 in
theorem rkCrash_any (HS : St w0 F W (rk vs vb vp R L)) (hT : ∀ p ∈ R.stable, p.length = 256) (hpd : ∀ x ∈ R.pending, 0 ≤ x.1 ∧ x.1 < R.stable.length ∧ x.2.length = 256) (hpn : R.pending.length ≤ 1000) (hsl : R.stable.length ≤ 244) {A : Option Addr} {c : Nat} (keep : List Int) (hk0 : ∀ z ∈ keep, 0 ≤ z ∧ z < 256) (hkeep : ∀ w X, St w0 F w (X ++ L) → (Kd.int .u8).C w A keep.length keep) : Calls Try.prog 23 #[.agg ([vs, vb, vp, .bool R.counted, .int .i64 R.left, .bool R.down] : List Value).toArray, .slice A keep.length c] W fun e w' => ∃ vs', e = .returned (rkV vs' vb (.slice none 0 0) (R.crash keep)) ∧ St w0 F w' (rk vs' vb (.slice none 0 0) (R.crash keep) L) := by
 refine c_enter Try.func23 rfl 13 rfl (.agg ([vs, vb, vp, .bool R.counted, .int .i64 R.left, .bool R.down] : List Value).toArray :: .slice A keep.length c :: U8vrd6 (undef :: undef :: undef :: [])) rfl ?_
 refine wp_seq_k (fun K1 hK2 => ?_)
 refine c_region (fun ops4 hops3 => ?_)
 clear hops3
 refine St.wBox HS (cs := [vs, vb, vp, .bool R.counted, .int .i64 R.left, .bool R.down]) (.agg ([vs, vb, vp, .bool R.counted, .int .i64 R.left, .bool R.down] : List Value).toArray) rfl rfl ?_
 clear HS
 intro g5 w6 hg7 HS
 refine St.wAlloc HS (cs := [.slice none 0 0, .slice none 0 0, .slice none 0 0, .bool false, .int .i64 0, .bool false]) (.agg [.slice none 0 0, .slice none 0 0, .slice none 0 0, .bool false, .int .i64 0, .bool false].toArray) (by kernel_rfl) rfl ?_
 clear HS
 intro g8 w9 hg10 HS
 refine wpList_nil ?_
 refine hK2 _ _ ?_
 refine wp_seq_k (fun K11 hK12 => ?_)
 refine c_region (fun ops14 hops13 => ?_)
 clear hops13
 refine p_run _ (x_loads [vs, vb, vp, .bool R.counted, .int .i64 R.left, .bool R.down] 6 rfl rfl (bkCells (HS.get (.tail _ (.head _))) 0 _ rfl) (by rfl) (by kernel_rfl) rfl) rfl ?_
 refine p_run _ (x_move (.slice A keep.length c) rfl rfl) rfl ?_
 refine w_call [.agg ([vs, vb, vp, .bool R.counted, .int .i64 R.left, .bool R.down] : List Value).toArray, .slice A keep.length c] Try.func42 (by kernel_rfl) (by rfl) rfl ?_
 replace HS := (((HS.front 4 rfl).front 4 rfl).front 4 rfl)
 refine (rkSettle_any HS hT hpd hpn hsl keep hk0 (fun w X hx => hkeep w (X ++ [_, _]) (by rw [List.append_assoc]; exact hx))).mono ?_
 clear HS
 rintro e w16 ⟨v15, rfl, HS⟩
 obtain ⟨A17, c18, hv19, hcp20, -⟩ := row_reads (HS.get (.head _))
 subst hv19
 obtain ⟨A21, c22, hv23, hcp24, -⟩ := row_reads (HS.get (.tail _ (.head _)))
 subst hv23
 refine ⟨_, rfl, ?_⟩
 refine St.stores (cs' := [.slice A17 (((R.settle keep).stable).length) c18, .slice A21 (((R.settle keep).bad).length) c22, .slice none 0 0, .bool ((R.settle keep).counted), .int .i64 ((R.settle keep).left), .bool ((R.settle keep).down)]) (HS.front 4 rfl) [.slice A17 (((R.settle keep).stable).length) c18, .slice A21 (((R.settle keep).bad).length) c22, .slice none 0 0, .bool ((R.settle keep).counted), .int .i64 ((R.settle keep).left), .bool ((R.settle keep).down)] 6 rfl rfl (by rfl) (by kernel_rfl) rfl (by simp) rfl ?_
 clear HS
 intro w25 HS
 refine wpList_nil ?_
 refine hK12 _ _ ?_
 refine wp_seq_k (fun K26 hK27 => ?_)
 refine c_region (fun ops29 hops28 => ?_)
 clear hops28
 refine p_run _ (x_field (j := 0) _ _ rfl rfl Try.underlying53 rfl (by rfl) rfl) rfl ?_
 refine p_run _ (x_load (.slice A17 (((R.settle keep).stable).length) c18) rfl rfl (bkCell (HS.get (.head _)) 0 _ rfl) (by rfl)) rfl ?_
 refine p_run _ (x_field (j := 1) _ _ rfl rfl Try.underlying53 rfl (by rfl) rfl) rfl ?_
 refine p_run (l' := (.agg ([vs, .slice A21 (((R.settle keep).bad).length) c22, vp, .bool R.counted, .int .i64 R.left, .bool R.down] : List Value).toArray :: .slice A keep.length c :: .pointer (some ⟨g5, 0, none⟩) :: undef :: .pointer (some ⟨g8, 0, none⟩) :: .agg ([vs, .slice A21 (((R.settle keep).bad).length) c22, vp, .bool R.counted, .int .i64 R.left, .bool R.down] : List Value).toArray :: .slice A keep.length c :: .agg ([.slice A17 (((R.settle keep).stable).length) c18, .slice A21 (((R.settle keep).bad).length) c22, .slice none 0 0, .bool ((R.settle keep).counted), .int .i64 ((R.settle keep).left), .bool ((R.settle keep).down)] : List Value).toArray :: .pointer (some ⟨g5, 0, none⟩) :: .slice A17 (((R.settle keep).stable).length) c18 :: .pointer (some ⟨g5, 1, none⟩) :: .slice A21 (((R.settle keep).bad).length) c22 :: undef :: [])) _ (x_load (.slice A21 (((R.settle keep).bad).length) c22) rfl rfl (bkCell (HS.get (.head _)) 1 _ rfl) (by rfl)) rfl ?_
 refine p_run _ (x_build [.slice A17 (((R.settle keep).stable).length) c18, .slice A21 (((R.settle keep).bad).length) c22, .slice none 0 0, .bool false, .int .i64 0, .bool false] rfl (by kernel_rfl)) rfl ?_
 refine St.stores (cs' := [.slice A17 (((R.settle keep).stable).length) c18, .slice A21 (((R.settle keep).bad).length) c22, .slice none 0 0, .bool false, .int .i64 0, .bool false]) (HS.front 4 rfl) [.slice A17 (((R.settle keep).stable).length) c18, .slice A21 (((R.settle keep).bad).length) c22, .slice none 0 0, .bool false, .int .i64 0, .bool false] 6 rfl rfl (by rfl) (by kernel_rfl) rfl (by simp) rfl ?_
 clear HS
 intro w30 HS
 refine wpList_nil ?_
 refine hK27 _ _ ?_
 refine wp_ret ?_
 try simp only [Exit.inBlock, Exit.then]
 refine c_ret (.agg ([.slice A17 (((R.settle keep).stable).length) c18, .slice A21 (((R.settle keep).bad).length) c22, .slice none 0 0, .bool false, .int .i64 0, .bool false] : List Value).toArray) (r_c rfl rfl (run_loadVar_aggn (by rfl) [.slice A17 (((R.settle keep).stable).length) c18, .slice A21 (((R.settle keep).bad).length) c22, .slice none 0 0, .bool false, .int .i64 0, .bool false] 6 (by kernel_rfl) rfl (bkCells (HS.get (.head _)) 0 _ (whole _)))) ?_
 exact ⟨_, rfl, (((HS.drop.drop.front 2 rfl).front 2 rfl).front 2 rfl)⟩
set_option maxRecDepth 10000 in
set_option maxHeartbeats 1000000 in
theorem rkSync_any (HS : St w0 F W (rk vs vb vp R L)) (hT : ∀ p ∈ R.stable, p.length = 256) (hpd : ∀ x ∈ R.pending, 0 ≤ x.1 ∧ x.1 < R.stable.length ∧ x.2.length = 256) (hpn : R.pending.length ≤ 1000) (hsl : R.stable.length ≤ 244) (hl : R.counted = true → 0 ≤ R.left ∧ R.left < 9223372036854775808) : Calls Try.prog 37 #[.agg ([vs, vb, vp, .bool R.counted, .int .i64 R.left, .bool R.down] : List Value).toArray] W fun e w' => ∃ vs' vp', e = .returned (.tuple #[rkV vs' vb vp' R.sync, .int .i64 R.actE]) ∧ St w0 F w' (rk vs' vb vp' R.sync L) := by
 rcases hacts : R.acts with _ | _
 ·have ha : R.actE = 42 := if_neg (by rw [hacts]; decide)
  refine c_enter Try.func37 rfl 28 rfl (.agg ([vs, vb, vp, .bool R.counted, .int .i64 R.left, .bool R.down] : List Value).toArray :: U16vrd6 (U8vrd6 (undef :: undef :: undef :: []))) rfl ?_
  refine wp_seq_k (fun K1 hK2 => ?_)
  refine c_region (fun ops4 hops3 => ?_)
  clear hops3
  refine St.wBox HS (cs := [vs, vb, vp, .bool R.counted, .int .i64 R.left, .bool R.down]) (.agg ([vs, vb, vp, .bool R.counted, .int .i64 R.left, .bool R.down] : List Value).toArray) rfl rfl ?_
  clear HS
  intro g5 w6 hg7 HS
  refine St.wAlloc HS (cs := [.slice none 0 0, .slice none 0 0, .slice none 0 0, .bool false, .int .i64 0, .bool false]) (.agg [.slice none 0 0, .slice none 0 0, .slice none 0 0, .bool false, .int .i64 0, .bool false].toArray) (by kernel_rfl) rfl ?_
  clear HS
  intro g8 w9 hg10 HS
  refine p_run _ (x_assign (.int .i64 0) rfl rfl) rfl ?_
  refine wpList_nil ?_
  refine hK2 _ _ ?_
  refine wp_seq_k (fun K11 hK12 => ?_)
  refine c_region (fun ops14 hops13 => ?_)
  clear hops13
  refine p_run _ (x_loads [vs, vb, vp, .bool R.counted, .int .i64 R.left, .bool R.down] 6 rfl rfl (bkCells (HS.get (.tail _ (.head _))) 0 _ rfl) (by rfl) (by kernel_rfl) rfl) rfl ?_
  refine w_call [.agg ([vs, vb, vp, .bool R.counted, .int .i64 R.left, .bool R.down] : List Value).toArray] Try.func41 (by kernel_rfl) (by rfl) rfl ?_
  replace HS := (((HS.front 4 rfl).front 4 rfl).front 4 rfl)
  refine (rkAct_any HS hl).mono ?_
  clear HS
  rintro e w15 ⟨rfl, HS⟩
  refine ⟨_, rfl, ?_⟩
  refine p_run _ (x_move (.tuple [.agg ([vs, vb, vp, .bool R.act.counted, .int .i64 R.act.left, .bool R.act.down] : List Value).toArray, .int .i64 R.actE].toArray) rfl rfl) rfl ?_
  refine p_run _ (x_extract (vs := [.agg ([vs, vb, vp, .bool R.act.counted, .int .i64 R.act.left, .bool R.act.down] : List Value).toArray, .int .i64 R.actE]) 0 (.agg ([vs, vb, vp, .bool R.act.counted, .int .i64 R.act.left, .bool R.act.down] : List Value).toArray) rfl rfl rfl) rfl ?_
  refine p_run _ (x_extract (vs := [.agg ([vs, vb, vp, .bool R.act.counted, .int .i64 R.act.left, .bool R.act.down] : List Value).toArray, .int .i64 R.actE]) 1 (.int .i64 R.actE) rfl rfl rfl) rfl ?_
  refine St.stores (cs' := [vs, vb, vp, .bool R.act.counted, .int .i64 R.act.left, .bool R.act.down]) (HS.front 4 rfl) [vs, vb, vp, .bool R.act.counted, .int .i64 R.act.left, .bool R.act.down] 6 rfl rfl (all1 (row_one (HS.get (.head _))) (all1 (row_one (HS.get (.tail _ (.head _)))) (all1 (row_one (HS.get (.tail _ (.tail _ (.head _))))) (all1 rfl (all1 rfl (all1 rfl rfl)))))) (by kernel_rfl) rfl (by simp) rfl ?_
  clear HS
  intro w16 HS
  refine p_run (l' := (.agg ([vs, vb, vp, .bool R.counted, .int .i64 R.left, .bool R.down] : List Value).toArray :: .pointer (some ⟨g5, 0, none⟩) :: .pointer (some ⟨g8, 0, none⟩) :: .int .i64 0 :: .int .i64 R.actE :: undef :: .tuple [.agg ([vs, vb, vp, .bool R.act.counted, .int .i64 R.act.left, .bool R.act.down] : List Value).toArray, .int .i64 R.actE].toArray :: .agg ([vs, vb, vp, .bool R.counted, .int .i64 R.left, .bool R.down] : List Value).toArray :: .tuple [.agg ([vs, vb, vp, .bool R.act.counted, .int .i64 R.act.left, .bool R.act.down] : List Value).toArray, .int .i64 R.actE].toArray :: .agg ([vs, vb, vp, .bool R.act.counted, .int .i64 R.act.left, .bool R.act.down] : List Value).toArray :: .int .i64 R.actE :: U16vrd6 (undef :: []))) _ (x_assign (.int .i64 R.actE) rfl rfl) rfl ?_
  refine wpList_nil ?_
  refine hK12 _ _ ?_
  refine wp_seq_k (fun K17 hK18 => ?_)
  refine wp_seq_k (fun K19 hK20 => ?_)
  refine c_region (fun ops22 hops21 => ?_)
  clear hops21
  refine p_run _ (x_move (.int .i64 R.actE) rfl rfl) rfl ?_
  refine p_run _ (x_cmp (k := .i64) (m := R.actE) (n := 0) .neq true rfl rfl rfl (by rw [ha]; rfl) rfl) rfl ?_
  refine wpList_nil ?_
  refine hK20 _ _ ?_
  refine c_true rfl ?_
  refine wp_seq_k (fun K23 hK24 => ?_)
  refine c_region (fun ops26 hops25 => ?_)
  clear hops25
  refine p_run _ (x_loads [vs, vb, vp, .bool R.act.counted, .int .i64 R.act.left, .bool R.act.down] 6 rfl rfl (bkCells (HS.get (.head _)) 0 _ rfl) (by rfl) (by kernel_rfl) rfl) rfl ?_
  refine p_run _ (x_move (.int .i64 R.actE) rfl rfl) rfl ?_
  refine St.stores (cs' := [vs, vb, vp, .bool R.act.counted, .int .i64 R.act.left, .bool R.act.down]) (HS.front 4 rfl) [vs, vb, vp, .bool R.act.counted, .int .i64 R.act.left, .bool R.act.down] 6 rfl rfl (all1 (row_one (HS.get (.tail _ (.head _)))) (all1 (row_one (HS.get (.tail _ (.tail _ (.head _))))) (all1 (row_one (HS.get (.tail _ (.tail _ (.tail _ (.head _)))))) (all1 rfl (all1 rfl (all1 rfl rfl)))))) (by kernel_rfl) rfl (by simp) rfl ?_
  clear HS
  intro w27 HS
  refine p_run _ (x_assign (.int .i64 R.actE) rfl rfl) rfl ?_
  refine wpList_nil ?_
  refine hK24 _ _ ?_
  refine wp_ret ?_
  try simp only [Exit.inBlock, Exit.then]
  refine c_ret (.tuple [.agg ([vs, vb, vp, .bool R.act.counted, .int .i64 R.act.left, .bool R.act.down] : List Value).toArray, .int .i64 R.actE].toArray) (r_ct rfl rfl (run_loadVar_aggn (by rfl) [vs, vb, vp, .bool R.act.counted, .int .i64 R.act.left, .bool R.act.down] 6 (by kernel_rfl) rfl (bkCells (HS.get (.head _)) 0 _ (whole _))) rfl) ?_
  have e1 : R.sync = R.act := by unfold Rk.sync; rw [if_neg (by rw [hacts]; decide)]
  rw [e1]
  exact ⟨vs, vp, rfl, (((HS.drop.drop.front 2 rfl).front 2 rfl).front 2 rfl)⟩
 ·have ha : R.actE = 0 := if_pos hacts
  obtain ⟨Ap, cp, hvp, hcp, -⟩ := row_reads (HS.get (.tail _ (.tail _ (.head _))))
  subst hvp
  refine c_enter Try.func37 rfl 28 rfl (.agg ([vs, vb, .slice Ap R.pending.length cp, .bool R.counted, .int .i64 R.left, .bool R.down] : List Value).toArray :: U16vrd6 (U8vrd6 (undef :: undef :: undef :: []))) rfl ?_
  refine wp_seq_k (fun K1 hK2 => ?_)
  refine c_region (fun ops4 hops3 => ?_)
  clear hops3
  refine St.wBox HS (cs := [vs, vb, .slice Ap R.pending.length cp, .bool R.counted, .int .i64 R.left, .bool R.down]) (.agg ([vs, vb, .slice Ap R.pending.length cp, .bool R.counted, .int .i64 R.left, .bool R.down] : List Value).toArray) rfl rfl ?_
  clear HS
  intro g5 w6 hg7 HS
  refine St.wAlloc HS (cs := [.slice none 0 0, .slice none 0 0, .slice none 0 0, .bool false, .int .i64 0, .bool false]) (.agg [.slice none 0 0, .slice none 0 0, .slice none 0 0, .bool false, .int .i64 0, .bool false].toArray) (by kernel_rfl) rfl ?_
  clear HS
  intro g8 w9 hg10 HS
  refine p_run _ (x_assign (.int .i64 0) rfl rfl) rfl ?_
  refine wpList_nil ?_
  refine hK2 _ _ ?_
  refine wp_seq_k (fun K11 hK12 => ?_)
  refine c_region (fun ops14 hops13 => ?_)
  clear hops13
  refine p_run _ (x_loads [vs, vb, .slice Ap R.pending.length cp, .bool R.counted, .int .i64 R.left, .bool R.down] 6 rfl rfl (bkCells (HS.get (.tail _ (.head _))) 0 _ rfl) (by rfl) (by kernel_rfl) rfl) rfl ?_
  refine w_call [.agg ([vs, vb, .slice Ap R.pending.length cp, .bool R.counted, .int .i64 R.left, .bool R.down] : List Value).toArray] Try.func41 (by kernel_rfl) (by rfl) rfl ?_
  replace HS := (((HS.front 4 rfl).front 4 rfl).front 4 rfl)
  refine (rkAct_any HS hl).mono ?_
  clear HS
  rintro e w15 ⟨rfl, HS⟩
  refine ⟨_, rfl, ?_⟩
  refine p_run _ (x_move (.tuple [.agg ([vs, vb, .slice Ap R.pending.length cp, .bool R.act.counted, .int .i64 R.act.left, .bool R.act.down] : List Value).toArray, .int .i64 R.actE].toArray) rfl rfl) rfl ?_
  refine p_run _ (x_extract (vs := [.agg ([vs, vb, .slice Ap R.pending.length cp, .bool R.act.counted, .int .i64 R.act.left, .bool R.act.down] : List Value).toArray, .int .i64 R.actE]) 0 (.agg ([vs, vb, .slice Ap R.pending.length cp, .bool R.act.counted, .int .i64 R.act.left, .bool R.act.down] : List Value).toArray) rfl rfl rfl) rfl ?_
  refine p_run _ (x_extract (vs := [.agg ([vs, vb, .slice Ap R.pending.length cp, .bool R.act.counted, .int .i64 R.act.left, .bool R.act.down] : List Value).toArray, .int .i64 R.actE]) 1 (.int .i64 R.actE) rfl rfl rfl) rfl ?_
  refine St.stores (cs' := [vs, vb, .slice Ap R.pending.length cp, .bool R.act.counted, .int .i64 R.act.left, .bool R.act.down]) (HS.front 4 rfl) [vs, vb, .slice Ap R.pending.length cp, .bool R.act.counted, .int .i64 R.act.left, .bool R.act.down] 6 rfl rfl (all1 (row_one (HS.get (.head _))) (all1 (row_one (HS.get (.tail _ (.head _)))) (all1 rfl (all1 rfl (all1 rfl (all1 rfl rfl)))))) (by kernel_rfl) rfl (by simp) rfl ?_
  clear HS
  intro w16 HS
  refine p_run (l' := (.agg ([vs, vb, .slice Ap R.pending.length cp, .bool R.counted, .int .i64 R.left, .bool R.down] : List Value).toArray :: .pointer (some ⟨g5, 0, none⟩) :: .pointer (some ⟨g8, 0, none⟩) :: .int .i64 0 :: .int .i64 R.actE :: undef :: .tuple [.agg ([vs, vb, .slice Ap R.pending.length cp, .bool R.act.counted, .int .i64 R.act.left, .bool R.act.down] : List Value).toArray, .int .i64 R.actE].toArray :: .agg ([vs, vb, .slice Ap R.pending.length cp, .bool R.counted, .int .i64 R.left, .bool R.down] : List Value).toArray :: .tuple [.agg ([vs, vb, .slice Ap R.pending.length cp, .bool R.act.counted, .int .i64 R.act.left, .bool R.act.down] : List Value).toArray, .int .i64 R.actE].toArray :: .agg ([vs, vb, .slice Ap R.pending.length cp, .bool R.act.counted, .int .i64 R.act.left, .bool R.act.down] : List Value).toArray :: .int .i64 R.actE :: U16vrd6 (undef :: []))) _ (x_assign (.int .i64 R.actE) rfl rfl) rfl ?_
  refine wpList_nil ?_
  refine hK12 _ _ ?_
  refine wp_seq_k (fun K17 hK18 => ?_)
  refine wp_seq_k (fun K19 hK20 => ?_)
  refine c_region (fun ops22 hops21 => ?_)
  clear hops21
  refine p_run _ (x_move (.int .i64 R.actE) rfl rfl) rfl ?_
  refine p_run _ (x_cmp (k := .i64) (m := R.actE) (n := 0) .neq false rfl rfl rfl (by rw [ha]; rfl) rfl) rfl ?_
  refine wpList_nil ?_
  refine hK20 _ _ ?_
  refine c_false rfl ?_
  refine wp_skip ?_
  refine hK18 _ _ ?_
  refine wp_seq_k (fun K23 hK24 => ?_)
  refine c_region (fun ops26 hops25 => ?_)
  clear hops25
  refine St.wLit0 HS (Kd.int .u8) rfl 1 (.int .u8 0) Try.underlying24 (by kernel_rfl) ?_
  clear HS
  intro v27 w28 HS
  refine p_run _ (x_assign (v27) rfl rfl) rfl ?_
  refine wpList_nil ?_
  refine hK24 _ _ ?_
  refine wp_seq_k (fun K29 hK30 => ?_)
  refine wp_seq_k (fun K31 hK32 => ?_)
  refine c_region (fun ops34 hops33 => ?_)
  clear hops33
  refine p_run _ (x_field (j := 2) _ _ rfl rfl Try.underlying53 rfl (by rfl) rfl) rfl ?_
  refine p_run _ (x_load (.slice Ap R.pending.length cp) rfl rfl (bkCell (HS.get (.tail _ (.head _))) 2 _ rfl) (by rfl)) rfl ?_
  refine p_run _ (x_len rfl rfl Try.underlying51) rfl ?_
  refine p_run _ (x_move (.int .i64 0) rfl rfl) rfl ?_
  refine wpList_nil ?_
  obtain ⟨qz35, hqz35⟩ : ∃ q_ : V8, q_ = ⟨.tuple [.agg ([vs, vb, .slice Ap R.pending.length cp, .bool R.act.counted, .int .i64 R.act.left, .bool R.act.down] : List Value).toArray, .int .i64 R.actE].toArray, .agg ([vs, vb, .slice Ap R.pending.length cp, .bool R.act.counted, .int .i64 R.act.left, .bool R.act.down] : List Value).toArray, .int .i64 R.actE, .int .i64 R.actE, .bool false, undef, undef, v27⟩ := ⟨_, rfl⟩
  refine fr_at (l' := (.agg ([vs, vb, .slice Ap R.pending.length cp, .bool R.counted, .int .i64 R.left, .bool R.down] : List Value).toArray :: .pointer (some ⟨g5, 0, none⟩) :: .pointer (some ⟨g8, 0, none⟩) :: .int .i64 0 :: .int .i64 R.actE :: v27 :: .tuple [.agg ([vs, vb, .slice Ap R.pending.length cp, .bool R.act.counted, .int .i64 R.act.left, .bool R.act.down] : List Value).toArray, .int .i64 R.actE].toArray :: .agg ([vs, vb, .slice Ap R.pending.length cp, .bool R.counted, .int .i64 R.left, .bool R.down] : List Value).toArray :: V8.l qz35 (.pointer (some ⟨g5, 2, none⟩) :: .slice Ap R.pending.length cp :: .int .i64 (R.pending.length : Int) :: .int .i64 0 :: U8vrd6 ([])))) (by subst hqz35; rfl) ?_
  refine hK32 _ _ ?_
  refine wp_block ?_
  refine c_loop (ι := Nat × Value) (fun i_ a_ w_ => match i_ with | (j, u) => ∃ (u20 : Value) (u21 : Value) (u22 : Value) (u23 : Value) (u24 : Value), a_ = fr (.agg ([vs, vb, .slice Ap R.pending.length cp, .bool R.counted, .int .i64 R.left, .bool R.down] : List Value).toArray :: .pointer (some ⟨g5, 0, none⟩) :: .pointer (some ⟨g8, 0, none⟩) :: .int .i64 0 :: .int .i64 R.actE :: u :: .tuple [.agg ([vs, vb, .slice Ap R.pending.length cp, .bool R.act.counted, .int .i64 R.act.left, .bool R.act.down] : List Value).toArray, .int .i64 R.actE].toArray :: .agg ([vs, vb, .slice Ap R.pending.length cp, .bool R.counted, .int .i64 R.left, .bool R.down] : List Value).toArray :: V8.l qz35 (.pointer (some ⟨g5, 2, none⟩) :: .slice Ap R.pending.length cp :: .int .i64 (R.pending.length : Int) :: .int .i64 (j : Int) :: u20 :: u21 :: u22 :: u23 :: u24 :: undef :: undef :: undef :: [])) ∧ St w0 F w_ (row (Kd.int .u8) rfl 5 u (List.replicate j (255 : Int)) :: blk g5 [vs, vb, .slice Ap R.pending.length cp, .bool R.act.counted, .int .i64 R.act.left, .bool R.act.down] 53 :: row kPg rfl 38 vs R.act.stable :: row Kd.bool rfl 4 vb R.act.bad :: row kWr rfl 87 (.slice Ap R.pending.length cp) R.act.pending :: blk g8 [.slice none 0 0, .slice none 0 0, .slice none 0 0, .bool false, .int .i64 0, .bool false] 53 :: L) ∧ (j ≤ R.pending.length)) (fun i_ => match i_ with | (j, u) => R.pending.length - j) (0, v27) ?_ ?_
  ·exact ⟨_, _, _, _, _, rfl, ((((((HS.front 5 rfl).front 5 rfl).front 5 rfl).front 5 rfl).front 5 rfl).front 5 rfl), Nat.zero_le _⟩
  ·clear HS
   rintro ⟨j, u⟩ a_ w38 ⟨u20, u21, u22, u23, u24, rfl, HS, hI⟩ J36 hJ37
   have hjl := hI
   refine wp_seq_k (fun K39 hK40 => ?_)
   refine c_region (fun ops42 hops41 => ?_)
   clear hops41
   refine p_run _ (x_cmp (k := .i64) (m := (j : Int)) (n := (R.pending.length : Int)) .lss (decide ((j : Int) < (R.pending.length : Int))) rfl rfl rfl rfl rfl) rfl ?_
   refine wpList_nil ?_
   refine hK40 _ _ ?_
   refine wp_seq_k (fun K43 hK44 => ?_)
   refine c_cond (t := decide ((j : Int) < (R.pending.length : Int))) rfl (fun hc45 => ?_) (fun hc45 => ?_)
   ·have hlt : j < R.pending.length := by have := of_decide_eq_true hc45; omega
    refine wp_skip ?_
    refine hK44 _ _ ?_
    refine wp_seq_k (fun K46 hK47 => ?_)
    refine wp_block ?_
    refine c_region (fun ops49 hops48 => ?_)
    clear hops48
    refine p_run _ (x_move (u) rfl rfl) rfl ?_
    refine St.wLit1 HS [.int .u8 255] 1 (.int .u8 0) (.int .u8 255) Try.underlying24 (by kernel_rfl) (by decide) rfl rfl rfl ?_
    clear HS
    intro g50 w51 hg52 HS
    replace HS := (HS.front 1 rfl)
    refine St.wAppend HS (.int .u8 0) 1 Try.underlying24 (by kernel_rfl) rfl (by decide) (by decide) [255] _ _ _ rfl rfl (ints_reads (HS.get (.tail _ (.head _))) rfl (by simp)) (fun _ _ h => h) (by simp; omega) ?_
    clear HS
    intro v53 w54 HS
    refine p_run _ (x_assign (v53) rfl rfl) rfl ?_
    refine wpList_nil ?_
    refine hK47 _ _ ?_
    refine c_region (fun ops56 hops55 => ?_)
    clear hops55
    refine p_run _ (x_arith (k := .i64) (m := (j : Int)) (n := 1) .add (((j + 1 : Nat) : Int)) rfl rfl rfl (show IntKind.i64.wrap ((j : Int) + 1) = ((j + 1 : Nat) : Int) from ((wr64 (by omega)).trans (by omega))) rfl) rfl ?_
    refine p_run _ (x_move (.int .i64 ((j + 1 : Nat) : Int)) rfl rfl) rfl ?_
    refine wpList_nil ?_
    refine fr_at (l' := (.agg ([vs, vb, .slice Ap R.pending.length cp, .bool R.counted, .int .i64 R.left, .bool R.down] : List Value).toArray :: .pointer (some ⟨g5, 0, none⟩) :: .pointer (some ⟨g8, 0, none⟩) :: .int .i64 0 :: .int .i64 R.actE :: v53 :: .tuple [.agg ([vs, vb, .slice Ap R.pending.length cp, .bool R.act.counted, .int .i64 R.act.left, .bool R.act.down] : List Value).toArray, .int .i64 R.actE].toArray :: .agg ([vs, vb, .slice Ap R.pending.length cp, .bool R.counted, .int .i64 R.left, .bool R.down] : List Value).toArray :: V8.l qz35 (.pointer (some ⟨g5, 2, none⟩) :: .slice Ap R.pending.length cp :: .int .i64 (R.pending.length : Int) :: .int .i64 ((j + 1 : Nat) : Int) :: .bool (decide ((j : Int) < (R.pending.length : Int))) :: u :: .slice (some ⟨g50, 0, none⟩) 1 1 :: v53 :: .int .i64 ((j + 1 : Nat) : Int) :: undef :: undef :: undef :: []))) rfl ?_
    rw [← List.replicate_succ'] at HS
    refine hJ37 (j + 1, v53) _ _ ?_ ?_
    ·show R.pending.length - (j + 1) < R.pending.length - j; omega
    ·exact ⟨_, _, _, _, _, rfl, (((((((HS.front 1 rfl).drop.front 5 rfl).front 5 rfl).front 5 rfl).front 5 rfl).front 5 rfl).front 5 rfl), (by omega)⟩
   ·obtain rfl : R.pending.length = j := by have := of_decide_eq_false hc45; omega
    obtain ⟨A57, c58, hv59, hcp60, -⟩ := row_reads (HS.get (.head _))
    subst hv59
    refine wp_exit ?_
    refine hK30 _ _ ?_
    refine wp_seq_k (fun K61 hK62 => ?_)
    refine c_region (fun ops64 hops63 => ?_)
    clear hops63
    refine p_run _ (x_loads [vs, vb, .slice Ap R.pending.length cp, .bool R.act.counted, .int .i64 R.act.left, .bool R.act.down] 6 rfl rfl (bkCells (HS.get (.tail _ (.head _))) 0 _ rfl) (by rfl) (by kernel_rfl) rfl) rfl ?_
    refine p_run _ (x_move (.slice A57 ((List.replicate R.pending.length (255 : Int)).length) c58) rfl rfl) rfl ?_
    refine w_call [.agg ([vs, vb, .slice Ap R.pending.length cp, .bool R.act.counted, .int .i64 R.act.left, .bool R.act.down] : List Value).toArray, .slice A57 ((List.replicate R.pending.length (255 : Int)).length) c58] Try.func42 (by kernel_rfl) (by rfl) rfl ?_
    replace HS := (((HS.front 4 rfl).front 4 rfl).front 4 rfl)
    refine (rkSettle_any HS (by rw [rk_stable]; exact hT) (by rw [rk_stable, rk_pend]; exact hpd) (by rw [rk_pend]; exact hpn) (by rw [rk_stable]; exact hsl) (List.replicate R.pending.length (255 : Int)) (fun z hz => by rw [(List.mem_replicate.1 hz).2]; decide) (fun w X hx => (row_C (hx.hs.right.1 _ (.head _))).2.2)).mono ?_
    clear HS
    rintro e w66 ⟨v65, rfl, HS⟩
    refine ⟨_, rfl, ?_⟩
    refine St.stores (cs' := [v65, vb, .slice none 0 0, .bool ((R.act.settle (List.replicate R.pending.length (255 : Int))).counted), .int .i64 ((R.act.settle (List.replicate R.pending.length (255 : Int))).left), .bool ((R.act.settle (List.replicate R.pending.length (255 : Int))).down)]) (HS.front 5 rfl) [v65, vb, .slice none 0 0, .bool ((R.act.settle (List.replicate R.pending.length (255 : Int))).counted), .int .i64 ((R.act.settle (List.replicate R.pending.length (255 : Int))).left), .bool ((R.act.settle (List.replicate R.pending.length (255 : Int))).down)] 6 rfl rfl (all1 (row_one (HS.get (.head _))) (all1 (row_one (HS.get (.tail _ (.head _)))) (all1 rfl (all1 rfl (all1 rfl (all1 rfl rfl)))))) (by kernel_rfl) rfl (by simp) rfl ?_
    clear HS
    intro w67 HS
    refine p_run _ (x_assign (.int .i64 0) rfl rfl) rfl ?_
    refine wpList_nil ?_
    refine hK62 _ _ ?_
    refine wp_ret ?_
    try simp only [Exit.inBlock, Exit.then]
    refine c_ret (.tuple [.agg ([v65, vb, .slice none 0 0, .bool ((R.act.settle (List.replicate R.pending.length (255 : Int))).counted), .int .i64 ((R.act.settle (List.replicate R.pending.length (255 : Int))).left), .bool ((R.act.settle (List.replicate R.pending.length (255 : Int))).down)] : List Value).toArray, .int .i64 0].toArray) (r_ct rfl rfl (run_loadVar_aggn (by rfl) [v65, vb, .slice none 0 0, .bool ((R.act.settle (List.replicate R.pending.length (255 : Int))).counted), .int .i64 ((R.act.settle (List.replicate R.pending.length (255 : Int))).left), .bool ((R.act.settle (List.replicate R.pending.length (255 : Int))).down)] 6 (by kernel_rfl) rfl (bkCells (HS.get (.head _)) 0 _ (whole _))) rfl) ?_
    have e1 : R.sync = R.act.settle (List.replicate R.pending.length 255) := by unfold Rk.sync; rw [if_pos hacts, rk_pend]
    rw [e1, ha]
    exact ⟨_, _, rfl, (((((HS.drop.front 3 rfl).drop.front 3 rfl).drop.front 2 rfl).front 2 rfl).front 2 rfl)⟩
end
end Go.Proofs.Ytenlkobjldhfgaa
set_option linter.unusedVariables false
set_option linter.unusedSimpArgs false
namespace Go.Proofs.Ytenlkobjldhfgaa
open Go.RowKit Go.Proofs.YtenlkobjldhfgaaW.PrintWords Go.Proofs.YtenlkobjldhfgaaW.PrintLast
abbrev U4vrd7 (l : List Value) : List Value := undef :: undef :: undef :: undef :: l
abbrev U8vrd7 (l : List Value) : List Value := U4vrd7 (U4vrd7 l)
abbrev U16vrd7 (l : List Value) : List Value := U8vrd7 (U8vrd7 l)
abbrev U32vrd7 (l : List Value) : List Value := U16vrd7 (U16vrd7 l)
section
variable {w0 W : World} {F : Nat → Prop} {L : List Res} {vs vb vp : Value} {R : Rk}
def Rk.readE (R : Rk) (i : Int) : Int := if R.there i = true then (if R.bad.getD i.toNat false = true then 43 else 0) else 41
def Rk.readP (R : Rk) (i : Int) : List Int := if R.there i = true then (if R.bad.getD i.toNat false = true then zpg else lastW R.pending i (R.stable.getD i.toNat zpg)) else zpg
theorem bo_get {w : World} {A : Option Addr} {n : Nat} {ps : List Bool} (h : Kd.bool.C w A n ps) (j : Nat) (hj : j < ps.length) : ∃ ad, A = some ad ∧ w.cell? (ad.add (j * 1)) = some (.bool (ps.getD j false)) := by
 obtain ⟨ad, e, hc⟩ := h.2.2 (by have := h.1; omega)
 obtain ⟨c, hs, hr, hcell⟩ := hc j _ (List.getElem?_eq_getElem hj)
 refine ⟨ad, e, ?_⟩
 rw [List.getD_eq_getElem?_getD, List.getElem?_eq_getElem hj]
 exact hcell 0 (.bool ps[j]) (by rw [show c = [.bool ps[j]] from hr]; rfl)
theorem lw_snoc (l : List (Int × List Int)) (x : Int × List Int) (i : Int) (p : List Int) : lastW (l ++ [x]) i p = if x.1 = i then x.2 else lastW l i p := by unfold lastW; rw [List.foldl_append]; rfl
theorem lw_take {l : List (Int × List Int)} {m : Nat} {x : Int × List Int} (hx : l[m]? = some x) (i : Int) (p : List Int) : lastW (l.take (m + 1)) i p = if x.1 = i then x.2 else lastW (l.take m) i p := by
 obtain ⟨hm, rfl⟩ := List.getElem?_eq_some_iff.1 hx
 rw [List.take_succ_eq_append_getElem hm, lw_snoc]
theorem cell_page {w : World} {ad : Addr} {a : Int} {p : List Int} (h : ∀ i u, (.int .i64 a :: nums .u8 p : List Value)[i]? = some u → w.cell? (ad.add i) = some u) : ∀ j v, (nums .u8 p)[j]? = some v → w.cell? ((ad.add 1).add j) = some v := fun j v hv => by
 rw [add_add, Nat.add_comm]
 exact h (j + 1) v hv
set_option maxRecDepth 10000 in
set_option maxHeartbeats 1000000 in
theorem rkRead_any (HS : St w0 F W (rk vs vb vp R L)) (hb : R.bad.length = R.stable.length) (hT : ∀ p ∈ R.stable, p.length = 256) (hpn : R.pending.length ≤ 1000) (i : Int) : Calls Try.prog 43 #[.agg ([vs, vb, vp, .bool R.counted, .int .i64 R.left, .bool R.down] : List Value).toArray, .int .i64 i] W fun e w' => e = .returned (.tuple #[.agg (nums .u8 (R.readP i)).toArray, .int .i64 (R.readE i)]) ∧ St w0 F w' (rk vs vb vp R L) := by
 rcases ht : R.there i with _ | _
 ·refine c_enter Try.func43 rfl 45 rfl (.agg ([vs, vb, vp, .bool R.counted, .int .i64 R.left, .bool R.down] : List Value).toArray :: .int .i64 i :: U32vrd7 (U8vrd7 (undef :: undef :: undef :: []))) rfl ?_
  refine wp_seq_k (fun K1 hK2 => ?_)
  refine c_region (fun ops4 hops3 => ?_)
  clear hops3
  refine St.wBox HS (cs := [vs, vb, vp, .bool R.counted, .int .i64 R.left, .bool R.down]) (.agg ([vs, vb, vp, .bool R.counted, .int .i64 R.left, .bool R.down] : List Value).toArray) rfl rfl ?_
  clear HS
  intro g5 w6 hg7 HS
  refine St.wAlloc HS (cs := ((nums .u8 zpg))) (.agg ((nums .u8 zpg)).toArray) (by kernel_rfl) rfl ?_
  clear HS
  intro g8 w9 hg10 HS
  refine p_run _ (x_assign (.int .i64 0) rfl rfl) rfl ?_
  refine wpList_nil ?_
  refine hK2 _ _ ?_
  refine wp_seq_k (fun K11 hK12 => ?_)
  refine wp_seq_k (fun K13 hK14 => ?_)
  refine c_region (fun ops16 hops15 => ?_)
  clear hops15
  refine p_run _ (x_loads [vs, vb, vp, .bool R.counted, .int .i64 R.left, .bool R.down] 6 rfl rfl (bkCells (HS.get (.tail _ (.head _))) 0 _ rfl) (by rfl) (by kernel_rfl) rfl) rfl ?_
  refine p_run _ (x_move (.int .i64 i) rfl rfl) rfl ?_
  refine w_call [.agg ([vs, vb, vp, .bool R.counted, .int .i64 R.left, .bool R.down] : List Value).toArray, .int .i64 i] Try.func40 (by kernel_rfl) (by rfl) rfl ?_
  replace HS := (((HS.front 4 rfl).front 4 rfl).front 4 rfl)
  refine (rkThere_any HS _).mono ?_
  clear HS
  rintro e w17 ⟨he_, HS⟩
  rw [ht] at he_
  subst he_
  refine ⟨_, rfl, ?_⟩
  refine p_run _ (x_not false rfl rfl) rfl ?_
  refine wpList_nil ?_
  refine fr_at (l' := (.agg ([vs, vb, vp, .bool R.counted, .int .i64 R.left, .bool R.down] : List Value).toArray :: .int .i64 i :: .pointer (some ⟨g5, 0, none⟩) :: undef :: .pointer (some ⟨g8, 0, none⟩) :: .int .i64 0 :: undef :: .agg ([vs, vb, vp, .bool R.counted, .int .i64 R.left, .bool R.down] : List Value).toArray :: .int .i64 i :: .bool false :: .bool true :: U32vrd7 (undef :: undef :: []))) rfl ?_
  refine hK14 _ _ ?_
  refine c_true rfl ?_
  refine wp_seq_k (fun K18 hK19 => ?_)
  refine c_region (fun ops21 hops20 => ?_)
  clear hops20
  refine p_run _ (x_build ((nums .u8 zpg)) rfl (by kernel_rfl)) rfl ?_
  refine St.stores (cs' := ((nums .u8 zpg))) (HS.front 3 rfl) ((nums .u8 zpg)) 256 rfl rfl (nums_one _ _) (by kernel_rfl) (by simp [nums_length, zlen]) (by simp [nums_length, zlen]) (lay_all _ _ (by simp [nums_length, zlen])) ?_
  clear HS
  intro w22 HS
  refine p_run _ (x_assign (.int .i64 41) rfl rfl) rfl ?_
  refine wpList_nil ?_
  refine hK19 _ _ ?_
  refine wp_ret ?_
  try simp only [Exit.inBlock, Exit.then]
  refine c_ret (.tuple [.agg ((nums .u8 zpg)).toArray, .int .i64 41].toArray) (r_ct rfl rfl (run_loadVar_aggn (by rfl) ((nums .u8 zpg)) 256 (by kernel_rfl) (by simp [nums_length, zlen]) (bkCells (HS.get (.head _)) 0 _ (whole _))) rfl) ?_
  have e1 : R.readP i = zpg := if_neg (by rw [ht]; decide)
  have e2 : R.readE i = 41 := if_neg (by rw [ht]; decide)
  rw [e1, e2]
  exact ⟨rfl, ((((HS.drop.front 3 rfl).drop.front 2 rfl).front 2 rfl).front 2 rfl)⟩
 ·have hi2 := of_decide_eq_true ht
  obtain ⟨i, rfl⟩ := Int.eq_ofNat_of_zero_le hi2.1
  have hib : i < R.bad.length := by omega
  obtain ⟨Ab, cb, hvb, hcb, -⟩ := row_reads (HS.get (.tail _ (.head _)))
  subst hvb
  rcases hbad : R.bad.getD i false with _ | _
  ·obtain ⟨As, cs, hvs, hcs, -⟩ := row_reads (HS.get (.head _))
   subst hvs
   obtain ⟨Ap, cp, hvp, hcp, -⟩ := row_reads (HS.get (.tail _ (.tail _ (.head _))))
   subst hvp
   obtain ⟨O, hO⟩ : ∃ O, R.stable[i]? = some O := ⟨_, List.getElem?_eq_getElem (by omega)⟩
   have hOl := hT O (List.mem_of_getElem? hO)
   have hOd : R.stable.getD i zpg = O := by rw [List.getD_eq_getElem?_getD, hO]; rfl
   refine c_enter Try.func43 rfl 45 rfl (.agg ([.slice As R.stable.length cs, .slice Ab R.bad.length cb, .slice Ap R.pending.length cp, .bool R.counted, .int .i64 R.left, .bool R.down] : List Value).toArray :: .int .i64 (i : Int) :: U32vrd7 (U8vrd7 (undef :: undef :: undef :: []))) rfl ?_
   refine wp_seq_k (fun K1 hK2 => ?_)
   refine c_region (fun ops4 hops3 => ?_)
   clear hops3
   refine St.wBox HS (cs := [.slice As R.stable.length cs, .slice Ab R.bad.length cb, .slice Ap R.pending.length cp, .bool R.counted, .int .i64 R.left, .bool R.down]) (.agg ([.slice As R.stable.length cs, .slice Ab R.bad.length cb, .slice Ap R.pending.length cp, .bool R.counted, .int .i64 R.left, .bool R.down] : List Value).toArray) rfl rfl ?_
   clear HS
   intro g5 w6 hg7 HS
   refine St.wAlloc HS (cs := ((nums .u8 zpg))) (.agg ((nums .u8 zpg)).toArray) (by kernel_rfl) rfl ?_
   clear HS
   intro g8 w9 hg10 HS
   refine p_run _ (x_assign (.int .i64 0) rfl rfl) rfl ?_
   refine wpList_nil ?_
   refine hK2 _ _ ?_
   refine wp_seq_k (fun K11 hK12 => ?_)
   refine wp_seq_k (fun K13 hK14 => ?_)
   refine c_region (fun ops16 hops15 => ?_)
   clear hops15
   refine p_run _ (x_loads [.slice As R.stable.length cs, .slice Ab R.bad.length cb, .slice Ap R.pending.length cp, .bool R.counted, .int .i64 R.left, .bool R.down] 6 rfl rfl (bkCells (HS.get (.tail _ (.head _))) 0 _ rfl) (by rfl) (by kernel_rfl) rfl) rfl ?_
   refine p_run _ (x_move (.int .i64 (i : Int)) rfl rfl) rfl ?_
   refine w_call [.agg ([.slice As R.stable.length cs, .slice Ab R.bad.length cb, .slice Ap R.pending.length cp, .bool R.counted, .int .i64 R.left, .bool R.down] : List Value).toArray, .int .i64 (i : Int)] Try.func40 (by kernel_rfl) (by rfl) rfl ?_
   replace HS := (((HS.front 4 rfl).front 4 rfl).front 4 rfl)
   refine (rkThere_any HS _).mono ?_
   clear HS
   rintro e w17 ⟨he_, HS⟩
   rw [ht] at he_
   subst he_
   refine ⟨_, rfl, ?_⟩
   refine p_run _ (x_not true rfl rfl) rfl ?_
   refine wpList_nil ?_
   refine fr_at (l' := (.agg ([.slice As R.stable.length cs, .slice Ab R.bad.length cb, .slice Ap R.pending.length cp, .bool R.counted, .int .i64 R.left, .bool R.down] : List Value).toArray :: .int .i64 (i : Int) :: .pointer (some ⟨g5, 0, none⟩) :: undef :: .pointer (some ⟨g8, 0, none⟩) :: .int .i64 0 :: undef :: .agg ([.slice As R.stable.length cs, .slice Ab R.bad.length cb, .slice Ap R.pending.length cp, .bool R.counted, .int .i64 R.left, .bool R.down] : List Value).toArray :: .int .i64 (i : Int) :: .bool true :: .bool false :: U32vrd7 (undef :: undef :: []))) rfl ?_
   refine hK14 _ _ ?_
   refine c_false rfl ?_
   refine wp_skip ?_
   refine hK12 _ _ ?_
   refine wp_seq_k (fun K18 hK19 => ?_)
   refine wp_seq_k (fun K20 hK21 => ?_)
   skip
   ·obtain ⟨ab, hab, -⟩ := bo_get (row_C (HS.get (.tail _ (.head _)))).2.2 i hib
    subst hab
    refine c_region (fun ops23 hops22 => ?_)
    clear hops22
    refine p_run _ (x_field (j := 1) _ _ rfl rfl Try.underlying53 rfl (by rfl) rfl) rfl ?_
    refine p_run _ (x_load (.slice (some ab) R.bad.length cb) rfl rfl (bkCell (HS.get (.tail _ (.tail _ (.tail _ (.tail _ (.head _)))))) 1 _ rfl) (by rfl)) rfl ?_
    refine p_run _ (x_move (.int .i64 (i : Int)) rfl rfl) rfl ?_
    refine p_run _ (x_index (A := ab) (j := i * 1) (sz := 1) rfl rfl rfl Try.underlying50 (by kernel_rfl) (by omega) rfl) rfl ?_
    refine p_run _ (x_load (.bool false) rfl rfl (by obtain ⟨a_, ha_, hc_⟩ := bo_get (row_C (HS.get (.tail _ (.head _)))).2.2 i hib; obtain rfl := Option.some.inj ha_; rw [hbad] at hc_; exact hc_) (by rfl)) rfl ?_
    refine wpList_nil ?_
    refine hK21 _ _ ?_
    refine c_false rfl ?_
    refine wp_skip ?_
    refine hK19 _ _ ?_
    refine wp_seq_k (fun K24 hK25 => ?_)
    refine wp_seq_k (fun K26 hK27 => ?_)
    refine c_region (fun ops29 hops28 => ?_)
    clear hops28
    refine p_run _ (x_field (j := 2) _ _ rfl rfl Try.underlying53 rfl (by rfl) rfl) rfl ?_
    refine p_run _ (x_load (.slice Ap R.pending.length cp) rfl rfl (bkCell (HS.get (.tail _ (.tail _ (.tail _ (.tail _ (.head _)))))) 2 _ rfl) (by rfl)) rfl ?_
    refine p_run _ (x_len rfl rfl Try.underlying51) rfl ?_
    refine p_run (l' := (.agg ([.slice As R.stable.length cs, .slice (some ab) R.bad.length cb, .slice Ap R.pending.length cp, .bool R.counted, .int .i64 R.left, .bool R.down] : List Value).toArray :: .int .i64 (i : Int) :: .pointer (some ⟨g5, 0, none⟩) :: undef :: .pointer (some ⟨g8, 0, none⟩) :: .int .i64 0 :: undef :: .agg ([.slice As R.stable.length cs, .slice (some ab) R.bad.length cb, .slice Ap R.pending.length cp, .bool R.counted, .int .i64 R.left, .bool R.down] : List Value).toArray :: .int .i64 (i : Int) :: .bool true :: .bool false :: undef :: .pointer (some ⟨g5, 1, none⟩) :: .slice (some ab) R.bad.length cb :: .int .i64 (i : Int) :: .pointer (some ((ab).add (i * 1))) :: .bool false :: undef :: .pointer (some ⟨g5, 2, none⟩) :: .slice Ap R.pending.length cp :: .int .i64 (R.pending.length : Int) :: .int .i64 ((R.pending.length : Int) - 1) :: U16vrd7 (U4vrd7 (undef :: undef :: undef :: [])))) _ (x_arith (k := .i64) (m := (R.pending.length : Int)) (n := 1) .sub (((R.pending.length : Int) - 1)) rfl rfl rfl (show IntKind.i64.wrap ((R.pending.length : Int) - 1) = ((R.pending.length : Int) - 1) from ((wr64 (by omega)).trans rfl)) rfl) rfl ?_
    refine p_run _ (x_assign (.int .i64 ((R.pending.length : Int) - 1)) rfl rfl) rfl ?_
    refine wpList_nil ?_
    obtain ⟨qz30, hqz30⟩ : ∃ q_ : V8, q_ = ⟨.int .i64 (i : Int), .bool true, .bool false, undef, .pointer (some ⟨g5, 1, none⟩), .slice (some ab) R.bad.length cb, .int .i64 (i : Int), .pointer (some ((ab).add (i * 1)))⟩ := ⟨_, rfl⟩
    refine fr_at (l' := (.agg ([.slice As R.stable.length cs, .slice (some ab) R.bad.length cb, .slice Ap R.pending.length cp, .bool R.counted, .int .i64 R.left, .bool R.down] : List Value).toArray :: .int .i64 (i : Int) :: .pointer (some ⟨g5, 0, none⟩) :: undef :: .pointer (some ⟨g8, 0, none⟩) :: .int .i64 0 :: .int .i64 ((R.pending.length : Int) - 1) :: .agg ([.slice As R.stable.length cs, .slice (some ab) R.bad.length cb, .slice Ap R.pending.length cp, .bool R.counted, .int .i64 R.left, .bool R.down] : List Value).toArray :: V8.l qz30 (.bool false :: undef :: .pointer (some ⟨g5, 2, none⟩) :: .slice Ap R.pending.length cp :: .int .i64 (R.pending.length : Int) :: .int .i64 ((R.pending.length : Int) - 1) :: U16vrd7 (U4vrd7 (undef :: undef :: undef :: []))))) (by subst hqz30; rfl) ?_
    refine hK27 _ _ ?_
    refine wp_block ?_
    refine c_loop (ι := Nat) (fun i_ a_ w_ => match i_ with | m => ∃ (u5 : Value) (u22 : Value) (u23 : Value) (u24 : Value) (u25 : Value) (u26 : Value) (u27 : Value) (u28 : Value) (u29 : Value) (u30 : Value) (u31 : Value) (u32 : Value) (u33 : Value) (u34 : Value) (u35 : Value) (u36 : Value) (u37 : Value) (u38 : Value) (u39 : Value), a_ = fr (.agg ([.slice As R.stable.length cs, .slice (some ab) R.bad.length cb, .slice Ap R.pending.length cp, .bool R.counted, .int .i64 R.left, .bool R.down] : List Value).toArray :: .int .i64 (i : Int) :: .pointer (some ⟨g5, 0, none⟩) :: undef :: .pointer (some ⟨g8, 0, none⟩) :: u5 :: .int .i64 ((m : Int) - 1) :: .agg ([.slice As R.stable.length cs, .slice (some ab) R.bad.length cb, .slice Ap R.pending.length cp, .bool R.counted, .int .i64 R.left, .bool R.down] : List Value).toArray :: V8.l qz30 (.bool false :: undef :: .pointer (some ⟨g5, 2, none⟩) :: .slice Ap R.pending.length cp :: .int .i64 (R.pending.length : Int) :: .int .i64 ((R.pending.length : Int) - 1) :: u22 :: u23 :: u24 :: u25 :: u26 :: u27 :: u28 :: u29 :: u30 :: u31 :: u32 :: u33 :: u34 :: u35 :: u36 :: u37 :: u38 :: u39 :: U4vrd7 (undef :: []))) ∧ St w0 F w_ (row kPg rfl 38 (.slice As R.stable.length cs) R.stable :: row Kd.bool rfl 4 (.slice (some ab) R.bad.length cb) R.bad :: row kWr rfl 87 (.slice Ap R.pending.length cp) R.pending :: blk g8 ((nums .u8 zpg)) 38 :: blk g5 [.slice As R.stable.length cs, .slice (some ab) R.bad.length cb, .slice Ap R.pending.length cp, .bool R.counted, .int .i64 R.left, .bool R.down] 53 :: L) ∧ (lastW R.pending (i : Int) O = lastW (R.pending.take m) (i : Int) O ∧ m ≤ R.pending.length)) (fun i_ => match i_ with | m => m) R.pending.length ?_ ?_
    ·exact ⟨_, _, _, _, _, _, _, _, _, _, _, _, _, _, _, _, _, _, _, rfl, (((((HS.front 4 rfl).front 4 rfl).front 4 rfl).front 4 rfl).front 4 rfl), ⟨by rw [List.take_length], Nat.le_refl _⟩⟩
    ·clear HS
     rintro m a_ w33 ⟨u5, u22, u23, u24, u25, u26, u27, u28, u29, u30, u31, u32, u33, u34, u35, u36, u37, u38, u39, rfl, HS, hI⟩ J31 hJ32
     obtain ⟨hlw, hml⟩ := hI
     refine wp_seq_k (fun K34 hK35 => ?_)
     refine wp_seq_k (fun K36 hK37 => ?_)
     rcases m with _ | m
     ·refine c_region (fun ops39 hops38 => ?_)
      clear hops38
      refine p_run _ (x_move (.int .i64 ((0 : Int) - 1)) rfl rfl) rfl ?_
      refine p_run _ (x_cmp (k := .i64) (m := ((0 : Int) - 1)) (n := 0) .geq false rfl rfl rfl (by decide) rfl) rfl ?_
      refine wpList_nil ?_
      refine hK37 _ _ ?_
      refine c_false rfl ?_
      refine wp_exit ?_
      refine hK25 _ _ ?_
      refine wp_seq_k (fun K40 hK41 => ?_)
      skip
      ·obtain ⟨as_, x_, has, hx2, hx3, hpc⟩ := pg_get (row_C (HS.get (.head _))).2.2 i (by omega)
       subst has
       obtain rfl : x_ = O := Option.some.inj (hx2.symm.trans hO)
       refine c_region (fun ops43 hops42 => ?_)
       clear hops42
       refine p_run _ (x_field (j := 0) _ _ rfl rfl Try.underlying53 rfl (by rfl) rfl) rfl ?_
       refine p_run _ (x_load (.slice (some as_) R.stable.length cs) rfl rfl (bkCell (HS.get (.tail _ (.tail _ (.tail _ (.tail _ (.head _)))))) 0 _ rfl) (by rfl)) rfl ?_
       refine p_run _ (x_move (.int .i64 (i : Int)) rfl rfl) rfl ?_
       refine p_run _ (x_index (A := as_) (j := i * 256) (sz := 256) rfl rfl rfl Try.underlying49 (by kernel_rfl) (by omega) rfl) rfl ?_
       refine p_run _ (x_loads ((nums .u8 x_)) 256 rfl rfl hpc (by rfl) (by kernel_rfl) (by simp [hx3, nums_length])) rfl ?_
       refine St.stores (cs' := ((nums .u8 x_))) (HS.front 3 rfl) ((nums .u8 x_)) 256 rfl rfl (nums_one _ _) (by kernel_rfl) (by simp [hx3, nums_length]) (by simp [hx3, nums_length, zlen]) (lay_all _ _ (by simp [hx3, nums_length, zlen])) ?_
       clear HS
       intro w44 HS
       refine p_run _ (x_assign (.int .i64 0) rfl rfl) rfl ?_
       refine wpList_nil ?_
       obtain ⟨qz45, hqz45⟩ : ∃ q_ : V8, q_ = ⟨.bool false, undef, .pointer (some ⟨g5, 2, none⟩), .slice Ap R.pending.length cp, .int .i64 (R.pending.length : Int), .int .i64 ((R.pending.length : Int) - 1), .int .i64 ((0 : Int) - 1), .bool false⟩ := ⟨_, rfl⟩
       obtain ⟨qz46, hqz46⟩ : ∃ q_ : V8, q_ = ⟨u24, u25, u26, u27, u28, u29, u30, u31⟩ := ⟨_, rfl⟩
       obtain ⟨qz47, hqz47⟩ : ∃ q_ : V8, q_ = ⟨u32, u33, u34, u35, u36, u37, u38, u39⟩ := ⟨_, rfl⟩
       refine fr_at (l' := (.agg ([.slice (some as_) R.stable.length cs, .slice (some ab) R.bad.length cb, .slice Ap R.pending.length cp, .bool R.counted, .int .i64 R.left, .bool R.down] : List Value).toArray :: .int .i64 (i : Int) :: .pointer (some ⟨g5, 0, none⟩) :: undef :: .pointer (some ⟨g8, 0, none⟩) :: .int .i64 0 :: .int .i64 ((0 : Int) - 1) :: .agg ([.slice (some as_) R.stable.length cs, .slice (some ab) R.bad.length cb, .slice Ap R.pending.length cp, .bool R.counted, .int .i64 R.left, .bool R.down] : List Value).toArray :: V8.l qz30 (V8.l qz45 (V8.l qz46 (V8.l qz47 (.pointer (some ⟨g5, 0, none⟩) :: .slice (some as_) R.stable.length cs :: .int .i64 (i : Int) :: .pointer (some ((as_).add (i * 256))) :: .agg ((nums .u8 x_)).toArray :: [])))))) (by subst hqz45 hqz46 hqz47; rfl) ?_
       refine hK41 _ _ ?_
       refine wp_ret ?_
       try simp only [Exit.inBlock, Exit.then]
       refine c_ret (.tuple [.agg ((nums .u8 x_)).toArray, .int .i64 0].toArray) (r_ct rfl rfl (run_loadVar_aggn (by rfl) ((nums .u8 x_)) 256 (by kernel_rfl) (by simp [hx3, nums_length]) (bkCells (HS.get (.head _)) 0 _ (whole _))) rfl) ?_
       have e1 : R.readP (i : Int) = x_ := by unfold Rk.readP; rw [if_pos ht, Int.toNat_natCast, if_neg (by rw [hbad]; decide), hOd]; rw [hlw, List.take_zero]; rfl
       have e2 : R.readE (i : Int) = 0 := by unfold Rk.readE; rw [if_pos ht, Int.toNat_natCast, if_neg (by rw [hbad]; decide)]
       rw [e1, e2]
       exact ⟨rfl, ((((HS.drop.front 3 rfl).drop.front 2 rfl).front 2 rfl).front 2 rfl)⟩
     ·rw [show (((m + 1 : Nat) : Int) - 1) = (m : Int) from by omega]
      have hlm : m < R.pending.length := by omega
      obtain ⟨ap, ⟨xa, xp⟩, hap, hx, hxp, hcell⟩ := wr_get (row_C (HS.get (.tail _ (.tail _ (.head _))))).2.2 m hlm
      subst hap
      dsimp only at hcell hxp
      refine c_region (fun ops49 hops48 => ?_)
      clear hops48
      refine p_run _ (x_move (.int .i64 (m : Int)) rfl rfl) rfl ?_
      refine p_run _ (x_cmp (k := .i64) (m := (m : Int)) (n := 0) .geq true rfl rfl rfl (show decide ((m : Int) ≥ 0) = true from decide_eq_true (by omega)) rfl) rfl ?_
      refine wpList_nil ?_
      refine hK37 _ _ ?_
      refine c_true rfl ?_
      refine wp_skip ?_
      refine hK35 _ _ ?_
      refine wp_seq_k (fun K50 hK51 => ?_)
      refine wp_block ?_
      refine wp_seq_k (fun K52 hK53 => ?_)
      by_cases hxi : xa = (i : Int)
      ·refine c_region (fun ops55 hops54 => ?_)
       clear hops54
       refine p_run _ (x_field (j := 2) _ _ rfl rfl Try.underlying53 rfl (by rfl) rfl) rfl ?_
       refine p_run _ (x_load (.slice (some ap) R.pending.length cp) rfl rfl (bkCell (HS.get (.tail _ (.tail _ (.tail _ (.tail _ (.head _)))))) 2 _ rfl) (by rfl)) rfl ?_
       refine p_run _ (x_move (.int .i64 (m : Int)) rfl rfl) rfl ?_
       refine p_run _ (x_index (A := ap) (j := m * 257) (sz := 257) rfl rfl rfl Try.underlying51 (by kernel_rfl) (by omega) rfl) rfl ?_
       refine p_run _ (x_fieldA _ _ rfl rfl Try.underlying87 rfl (by rfl)) rfl ?_
       refine p_run _ (x_load (.int .i64 xa) rfl rfl (hcell 0 _ rfl) (by rfl)) rfl ?_
       refine p_run (l' := (.agg ([.slice As R.stable.length cs, .slice (some ab) R.bad.length cb, .slice (some ap) R.pending.length cp, .bool R.counted, .int .i64 R.left, .bool R.down] : List Value).toArray :: .int .i64 (i : Int) :: .pointer (some ⟨g5, 0, none⟩) :: undef :: .pointer (some ⟨g8, 0, none⟩) :: u5 :: .int .i64 (m : Int) :: .agg ([.slice As R.stable.length cs, .slice (some ab) R.bad.length cb, .slice (some ap) R.pending.length cp, .bool R.counted, .int .i64 R.left, .bool R.down] : List Value).toArray :: V8.l qz30 (.bool false :: undef :: .pointer (some ⟨g5, 2, none⟩) :: .slice (some ap) R.pending.length cp :: .int .i64 (R.pending.length : Int) :: .int .i64 ((R.pending.length : Int) - 1) :: .int .i64 (m : Int) :: .bool true :: u24 :: u25 :: .pointer (some ⟨g5, 2, none⟩) :: .slice (some ap) R.pending.length cp :: .int .i64 (m : Int) :: .pointer (some ((ap).add (m * 257))) :: .pointer (some (((ap).add (m * 257)).add 0)) :: .int .i64 xa :: .int .i64 (i : Int) :: u33 :: u34 :: u35 :: u36 :: u37 :: u38 :: u39 :: U4vrd7 (undef :: [])))) _ (x_move (.int .i64 (i : Int)) rfl rfl) rfl ?_
       refine p_run _ (x_cmp (k := .i64) (m := xa) (n := (i : Int)) .eql true rfl rfl rfl (by unfold cmpB; rw [hxi]; simp) rfl) rfl ?_
       refine wpList_nil ?_
       refine hK53 _ _ ?_
       refine c_true rfl ?_
       refine wp_seq_k (fun K56 hK57 => ?_)
       refine c_region (fun ops59 hops58 => ?_)
       clear hops58
       refine p_run _ (x_field (j := 2) _ _ rfl rfl Try.underlying53 rfl (by rfl) rfl) rfl ?_
       refine p_run _ (x_load (.slice (some ap) R.pending.length cp) rfl rfl (bkCell (HS.get (.tail _ (.tail _ (.tail _ (.tail _ (.head _)))))) 2 _ rfl) (by rfl)) rfl ?_
       refine p_run _ (x_move (.int .i64 (m : Int)) rfl rfl) rfl ?_
       refine p_run _ (x_index (A := ap) (j := m * 257) (sz := 257) rfl rfl rfl Try.underlying51 (by kernel_rfl) (by omega) rfl) rfl ?_
       refine p_run _ (x_fieldA _ _ rfl rfl Try.underlying87 rfl (by rfl)) rfl ?_
       refine p_run _ (x_loads ((nums .u8 xp)) 256 rfl rfl (cell_page hcell) (by rfl) (by kernel_rfl) (by simp [hxp, nums_length])) rfl ?_
       refine St.stores (cs' := ((nums .u8 xp))) (HS.front 3 rfl) ((nums .u8 xp)) 256 rfl rfl (nums_one _ _) (by kernel_rfl) (by simp [hxp, nums_length]) (by simp [hxp, nums_length, zlen]) (lay_all _ _ (by simp [hxp, nums_length, zlen])) ?_
       clear HS
       intro w60 HS
       refine p_run _ (x_assign (.int .i64 0) rfl rfl) rfl ?_
       refine wpList_nil ?_
       refine fr_at (l' := (.agg ([.slice As R.stable.length cs, .slice (some ab) R.bad.length cb, .slice (some ap) R.pending.length cp, .bool R.counted, .int .i64 R.left, .bool R.down] : List Value).toArray :: .int .i64 (i : Int) :: .pointer (some ⟨g5, 0, none⟩) :: undef :: .pointer (some ⟨g8, 0, none⟩) :: .int .i64 0 :: .int .i64 (m : Int) :: .agg ([.slice As R.stable.length cs, .slice (some ab) R.bad.length cb, .slice (some ap) R.pending.length cp, .bool R.counted, .int .i64 R.left, .bool R.down] : List Value).toArray :: V8.l qz30 (.bool false :: undef :: .pointer (some ⟨g5, 2, none⟩) :: .slice (some ap) R.pending.length cp :: .int .i64 (R.pending.length : Int) :: .int .i64 ((R.pending.length : Int) - 1) :: .int .i64 (m : Int) :: .bool true :: u24 :: u25 :: .pointer (some ⟨g5, 2, none⟩) :: .slice (some ap) R.pending.length cp :: .int .i64 (m : Int) :: .pointer (some ((ap).add (m * 257))) :: .pointer (some (((ap).add (m * 257)).add 0)) :: .int .i64 xa :: .int .i64 (i : Int) :: .bool true :: .pointer (some ⟨g5, 2, none⟩) :: .slice (some ap) R.pending.length cp :: .int .i64 (m : Int) :: .pointer (some ((ap).add (m * 257))) :: .pointer (some (((ap).add (m * 257)).add 1)) :: .agg ((nums .u8 xp)).toArray :: U4vrd7 (undef :: [])))) rfl ?_
       refine hK57 _ _ ?_
       refine wp_ret ?_
       try simp only [Exit.inBlock, Exit.then]
       refine c_ret (.tuple [.agg ((nums .u8 xp)).toArray, .int .i64 0].toArray) (r_ct rfl rfl (run_loadVar_aggn (by rfl) ((nums .u8 xp)) 256 (by kernel_rfl) (by simp [hxp, nums_length]) (bkCells (HS.get (.head _)) 0 _ (whole _))) rfl) ?_
       have e1 : R.readP (i : Int) = xp := by unfold Rk.readP; rw [if_pos ht, Int.toNat_natCast, if_neg (by rw [hbad]; decide), hOd]; rw [hlw, lw_take hx, if_pos hxi]
       have e2 : R.readE (i : Int) = 0 := by unfold Rk.readE; rw [if_pos ht, Int.toNat_natCast, if_neg (by rw [hbad]; decide)]
       rw [e1, e2]
       exact ⟨rfl, ((((HS.drop.front 3 rfl).drop.front 2 rfl).front 2 rfl).front 2 rfl)⟩
      ·refine c_region (fun ops62 hops61 => ?_)
       clear hops61
       refine p_run _ (x_field (j := 2) _ _ rfl rfl Try.underlying53 rfl (by rfl) rfl) rfl ?_
       refine p_run _ (x_load (.slice (some ap) R.pending.length cp) rfl rfl (bkCell (HS.get (.tail _ (.tail _ (.tail _ (.tail _ (.head _)))))) 2 _ rfl) (by rfl)) rfl ?_
       refine p_run _ (x_move (.int .i64 (m : Int)) rfl rfl) rfl ?_
       refine p_run _ (x_index (A := ap) (j := m * 257) (sz := 257) rfl rfl rfl Try.underlying51 (by kernel_rfl) (by omega) rfl) rfl ?_
       refine p_run _ (x_fieldA _ _ rfl rfl Try.underlying87 rfl (by rfl)) rfl ?_
       refine p_run _ (x_load (.int .i64 xa) rfl rfl (hcell 0 _ rfl) (by rfl)) rfl ?_
       refine p_run _ (x_move (.int .i64 (i : Int)) rfl rfl) rfl ?_
       refine p_run _ (x_cmp (k := .i64) (m := xa) (n := (i : Int)) .eql false rfl rfl rfl (by unfold cmpB; simpa using hxi) rfl) rfl ?_
       refine wpList_nil ?_
       refine fr_at (l' := (.agg ([.slice As R.stable.length cs, .slice (some ab) R.bad.length cb, .slice (some ap) R.pending.length cp, .bool R.counted, .int .i64 R.left, .bool R.down] : List Value).toArray :: .int .i64 (i : Int) :: .pointer (some ⟨g5, 0, none⟩) :: undef :: .pointer (some ⟨g8, 0, none⟩) :: u5 :: .int .i64 (m : Int) :: .agg ([.slice As R.stable.length cs, .slice (some ab) R.bad.length cb, .slice (some ap) R.pending.length cp, .bool R.counted, .int .i64 R.left, .bool R.down] : List Value).toArray :: V8.l qz30 (.bool false :: undef :: .pointer (some ⟨g5, 2, none⟩) :: .slice (some ap) R.pending.length cp :: .int .i64 (R.pending.length : Int) :: .int .i64 ((R.pending.length : Int) - 1) :: .int .i64 (m : Int) :: .bool true :: u24 :: u25 :: .pointer (some ⟨g5, 2, none⟩) :: .slice (some ap) R.pending.length cp :: .int .i64 (m : Int) :: .pointer (some ((ap).add (m * 257))) :: .pointer (some (((ap).add (m * 257)).add 0)) :: .int .i64 xa :: .int .i64 (i : Int) :: .bool false :: u34 :: u35 :: u36 :: u37 :: u38 :: u39 :: U4vrd7 (undef :: [])))) rfl ?_
       refine hK53 _ _ ?_
       refine c_false rfl ?_
       refine wp_skip ?_
       refine hK51 _ _ ?_
       refine c_region (fun ops64 hops63 => ?_)
       clear hops63
       refine p_run _ (x_move (.int .i64 (m : Int)) rfl rfl) rfl ?_
       refine p_run _ (x_arith (k := .i64) (m := (m : Int)) (n := 1) .sub (((m : Int) - 1)) rfl rfl rfl (show IntKind.i64.wrap ((m : Int) - 1) = ((m : Int) - 1) from ((wr64 (by omega)).trans rfl)) rfl) rfl ?_
       refine p_run _ (x_assign (.int .i64 ((m : Int) - 1)) rfl rfl) rfl ?_
       refine wpList_nil ?_
       refine fr_at (l' := (.agg ([.slice As R.stable.length cs, .slice (some ab) R.bad.length cb, .slice (some ap) R.pending.length cp, .bool R.counted, .int .i64 R.left, .bool R.down] : List Value).toArray :: .int .i64 (i : Int) :: .pointer (some ⟨g5, 0, none⟩) :: undef :: .pointer (some ⟨g8, 0, none⟩) :: u5 :: .int .i64 ((m : Int) - 1) :: .agg ([.slice As R.stable.length cs, .slice (some ab) R.bad.length cb, .slice (some ap) R.pending.length cp, .bool R.counted, .int .i64 R.left, .bool R.down] : List Value).toArray :: V8.l qz30 (.bool false :: undef :: .pointer (some ⟨g5, 2, none⟩) :: .slice (some ap) R.pending.length cp :: .int .i64 (R.pending.length : Int) :: .int .i64 ((R.pending.length : Int) - 1) :: .int .i64 (m : Int) :: .bool true :: .int .i64 (m : Int) :: .int .i64 ((m : Int) - 1) :: .pointer (some ⟨g5, 2, none⟩) :: .slice (some ap) R.pending.length cp :: .int .i64 (m : Int) :: .pointer (some ((ap).add (m * 257))) :: .pointer (some (((ap).add (m * 257)).add 0)) :: .int .i64 xa :: .int .i64 (i : Int) :: .bool false :: u34 :: u35 :: u36 :: u37 :: u38 :: u39 :: U4vrd7 (undef :: [])))) rfl ?_
       refine hJ32 m _ _ ?_ ?_
       ·show m < m + 1; omega
       ·exact ⟨_, _, _, _, _, _, _, _, _, _, _, _, _, _, _, _, _, _, _, rfl, (((((HS.front 4 rfl).front 4 rfl).front 4 rfl).front 4 rfl).front 4 rfl), ⟨by rw [hlw, lw_take hx, if_neg hxi], by omega⟩⟩
  ·refine c_enter Try.func43 rfl 45 rfl (.agg ([vs, .slice Ab R.bad.length cb, vp, .bool R.counted, .int .i64 R.left, .bool R.down] : List Value).toArray :: .int .i64 (i : Int) :: U32vrd7 (U8vrd7 (undef :: undef :: undef :: []))) rfl ?_
   refine wp_seq_k (fun K1 hK2 => ?_)
   refine c_region (fun ops4 hops3 => ?_)
   clear hops3
   refine St.wBox HS (cs := [vs, .slice Ab R.bad.length cb, vp, .bool R.counted, .int .i64 R.left, .bool R.down]) (.agg ([vs, .slice Ab R.bad.length cb, vp, .bool R.counted, .int .i64 R.left, .bool R.down] : List Value).toArray) rfl rfl ?_
   clear HS
   intro g5 w6 hg7 HS
   refine St.wAlloc HS (cs := ((nums .u8 zpg))) (.agg ((nums .u8 zpg)).toArray) (by kernel_rfl) rfl ?_
   clear HS
   intro g8 w9 hg10 HS
   refine p_run _ (x_assign (.int .i64 0) rfl rfl) rfl ?_
   refine wpList_nil ?_
   refine hK2 _ _ ?_
   refine wp_seq_k (fun K11 hK12 => ?_)
   refine wp_seq_k (fun K13 hK14 => ?_)
   refine c_region (fun ops16 hops15 => ?_)
   clear hops15
   refine p_run _ (x_loads [vs, .slice Ab R.bad.length cb, vp, .bool R.counted, .int .i64 R.left, .bool R.down] 6 rfl rfl (bkCells (HS.get (.tail _ (.head _))) 0 _ rfl) (by rfl) (by kernel_rfl) rfl) rfl ?_
   refine p_run _ (x_move (.int .i64 (i : Int)) rfl rfl) rfl ?_
   refine w_call [.agg ([vs, .slice Ab R.bad.length cb, vp, .bool R.counted, .int .i64 R.left, .bool R.down] : List Value).toArray, .int .i64 (i : Int)] Try.func40 (by kernel_rfl) (by rfl) rfl ?_
   replace HS := (((HS.front 4 rfl).front 4 rfl).front 4 rfl)
   refine (rkThere_any HS _).mono ?_
   clear HS
   rintro e w17 ⟨he_, HS⟩
   rw [ht] at he_
   subst he_
   refine ⟨_, rfl, ?_⟩
   refine p_run _ (x_not true rfl rfl) rfl ?_
   refine wpList_nil ?_
   refine fr_at (l' := (.agg ([vs, .slice Ab R.bad.length cb, vp, .bool R.counted, .int .i64 R.left, .bool R.down] : List Value).toArray :: .int .i64 (i : Int) :: .pointer (some ⟨g5, 0, none⟩) :: undef :: .pointer (some ⟨g8, 0, none⟩) :: .int .i64 0 :: undef :: .agg ([vs, .slice Ab R.bad.length cb, vp, .bool R.counted, .int .i64 R.left, .bool R.down] : List Value).toArray :: .int .i64 (i : Int) :: .bool true :: .bool false :: U32vrd7 (undef :: undef :: []))) rfl ?_
   refine hK14 _ _ ?_
   refine c_false rfl ?_
   refine wp_skip ?_
   refine hK12 _ _ ?_
   refine wp_seq_k (fun K18 hK19 => ?_)
   refine wp_seq_k (fun K20 hK21 => ?_)
   skip
   ·obtain ⟨ab, hab, -⟩ := bo_get (row_C (HS.get (.tail _ (.head _)))).2.2 i hib
    subst hab
    refine c_region (fun ops23 hops22 => ?_)
    clear hops22
    refine p_run _ (x_field (j := 1) _ _ rfl rfl Try.underlying53 rfl (by rfl) rfl) rfl ?_
    refine p_run _ (x_load (.slice (some ab) R.bad.length cb) rfl rfl (bkCell (HS.get (.tail _ (.tail _ (.tail _ (.tail _ (.head _)))))) 1 _ rfl) (by rfl)) rfl ?_
    refine p_run _ (x_move (.int .i64 (i : Int)) rfl rfl) rfl ?_
    refine p_run _ (x_index (A := ab) (j := i * 1) (sz := 1) rfl rfl rfl Try.underlying50 (by kernel_rfl) (by omega) rfl) rfl ?_
    refine p_run _ (x_load (.bool true) rfl rfl (by obtain ⟨a_, ha_, hc_⟩ := bo_get (row_C (HS.get (.tail _ (.head _)))).2.2 i hib; obtain rfl := Option.some.inj ha_; rw [hbad] at hc_; exact hc_) (by rfl)) rfl ?_
    refine wpList_nil ?_
    refine hK21 _ _ ?_
    refine c_true rfl ?_
    refine wp_seq_k (fun K24 hK25 => ?_)
    refine c_region (fun ops27 hops26 => ?_)
    clear hops26
    refine p_run _ (x_build ((nums .u8 zpg)) rfl (by kernel_rfl)) rfl ?_
    refine St.stores (cs' := ((nums .u8 zpg))) (HS.front 3 rfl) ((nums .u8 zpg)) 256 rfl rfl (nums_one _ _) (by kernel_rfl) (by simp [nums_length, zlen]) (by simp [nums_length, zlen]) (lay_all _ _ (by simp [nums_length, zlen])) ?_
    clear HS
    intro w28 HS
    refine p_run _ (x_assign (.int .i64 43) rfl rfl) rfl ?_
    refine wpList_nil ?_
    obtain ⟨qz29, hqz29⟩ : ∃ q_ : V8, q_ = ⟨.int .i64 (i : Int), .bool true, .bool false, undef, .pointer (some ⟨g5, 1, none⟩), .slice (some ab) R.bad.length cb, .int .i64 (i : Int), .pointer (some ((ab).add (i * 1)))⟩ := ⟨_, rfl⟩
    refine fr_at (l' := (.agg ([vs, .slice (some ab) R.bad.length cb, vp, .bool R.counted, .int .i64 R.left, .bool R.down] : List Value).toArray :: .int .i64 (i : Int) :: .pointer (some ⟨g5, 0, none⟩) :: undef :: .pointer (some ⟨g8, 0, none⟩) :: .int .i64 43 :: undef :: .agg ([vs, .slice (some ab) R.bad.length cb, vp, .bool R.counted, .int .i64 R.left, .bool R.down] : List Value).toArray :: V8.l qz29 (.bool true :: .agg ((nums .u8 zpg)).toArray :: U16vrd7 (U8vrd7 (undef :: undef :: undef :: []))))) (by subst hqz29; rfl) ?_
    refine hK25 _ _ ?_
    refine wp_ret ?_
    try simp only [Exit.inBlock, Exit.then]
    refine c_ret (.tuple [.agg ((nums .u8 zpg)).toArray, .int .i64 43].toArray) (r_ct rfl rfl (run_loadVar_aggn (by rfl) ((nums .u8 zpg)) 256 (by kernel_rfl) (by simp [nums_length, zlen]) (bkCells (HS.get (.head _)) 0 _ (whole _))) rfl) ?_
    have e1 : R.readP (i : Int) = zpg := by unfold Rk.readP; rw [if_pos ht, Int.toNat_natCast, if_pos hbad]
    have e2 : R.readE (i : Int) = 43 := by unfold Rk.readE; rw [if_pos ht, Int.toNat_natCast, if_pos hbad]
    rw [e1, e2]
    exact ⟨rfl, ((((HS.drop.front 3 rfl).drop.front 2 rfl).front 2 rfl).front 2 rfl)⟩
end
end Go.Proofs.Ytenlkobjldhfgaa
set_option linter.unusedVariables false
set_option linter.unusedSimpArgs false
namespace Go.Proofs.Ytenlkobjldhfgaa
open Go.RowKit Go.Proofs.YtenlkobjldhfgaaW.PrintWords Go.Proofs.YtenlkobjldhfgaaW.PrintLast
abbrev U4vrd8 (l : List Value) : List Value := undef :: undef :: undef :: undef :: l
abbrev U8vrd8 (l : List Value) : List Value := U4vrd8 (U4vrd8 l)
abbrev U16vrd8 (l : List Value) : List Value := U8vrd8 (U8vrd8 l)
section
variable {w0 W : World} {F : Nat → Prop} {L : List Res}
def Rk.new (pages : Int) : Rk := { stable := List.replicate (nOf pages) zpg, bad := List.replicate (nOf pages) false, pending := [], counted := false, left := 0, down := false }
theorem nof_step {pages : Int} {m : Nat} (h1 : (m : Int) < pages) (h2 : (m : Int) < 244) : m + 1 ≤ nOf pages := by unfold nOf; split <;> (try split) <;> omega
theorem nof_end {pages : Int} {m : Nat} (hm : m ≤ nOf pages) (h : ¬ (m : Int) < pages ∨ ¬ (m : Int) < 244) : m = nOf pages := by unfold nOf at hm ⊢; split <;> (try split) <;> (simp_all <;> omega)
set_option maxRecDepth 10000 in
set_option maxHeartbeats 1000000 in
theorem rkNew_any (HS : St w0 F W L) (pages : Int) : Calls Try.prog 18 #[.int .i64 pages] W fun e w' => ∃ vs vb, e = .returned (rkV vs vb (.slice none 0 0) (Rk.new pages)) ∧ St w0 F w' (rk vs vb (.slice none 0 0) (Rk.new pages) L) := by
 refine c_enter Try.func18 rfl 27 rfl (.int .i64 pages :: U16vrd8 (U8vrd8 (undef :: undef :: []))) rfl ?_
 refine wp_seq_k (fun K1 hK2 => ?_)
 refine c_region (fun ops4 hops3 => ?_)
 clear hops3
 refine St.wAlloc HS (cs := [.slice none 0 0, .slice none 0 0, .slice none 0 0, .bool false, .int .i64 0, .bool false]) (.agg [.slice none 0 0, .slice none 0 0, .slice none 0 0, .bool false, .int .i64 0, .bool false].toArray) (by kernel_rfl) rfl ?_
 clear HS
 intro g5 w6 hg7 HS
 refine wpList_nil ?_
 refine hK2 _ _ ?_
 refine wp_seq_k (fun K8 hK9 => ?_)
 refine c_region (fun ops11 hops10 => ?_)
 clear hops10
 refine p_run _ (x_build [.slice none 0 0, .slice none 0 0, .slice none 0 0, .bool false, .int .i64 0, .bool false] rfl (by kernel_rfl)) rfl ?_
 refine St.wAlloc HS (cs := [.slice none 0 0, .slice none 0 0, .slice none 0 0, .bool false, .int .i64 0, .bool false]) (.agg [.slice none 0 0, .slice none 0 0, .slice none 0 0, .bool false, .int .i64 0, .bool false].toArray) (by kernel_rfl) rfl ?_
 clear HS
 intro g12 w13 hg14 HS
 refine St.stores (cs' := [.slice none 0 0, .slice none 0 0, .slice none 0 0, .bool false, .int .i64 0, .bool false]) HS [.slice none 0 0, .slice none 0 0, .slice none 0 0, .bool false, .int .i64 0, .bool false] 6 rfl rfl (by rfl) (by kernel_rfl) rfl (by simp) rfl ?_
 clear HS
 intro w15 HS
 refine wpList_nil ?_
 refine hK9 _ _ ?_
 refine wp_seq_k (fun K16 hK17 => ?_)
 refine wp_seq_k (fun K18 hK19 => ?_)
 refine c_region (fun ops21 hops20 => ?_)
 clear hops20
 refine p_run _ (x_assign (.int .i64 0) rfl rfl) rfl ?_
 refine wpList_nil ?_
 refine fr_at (l' := (.int .i64 pages :: undef :: .pointer (some ⟨g5, 0, none⟩) :: .pointer (some ⟨g12, 0, none⟩) :: .int .i64 0 :: .agg ([.slice none 0 0, .slice none 0 0, .slice none 0 0, .bool false, .int .i64 0, .bool false] : List Value).toArray :: U16vrd8 (U4vrd8 (undef :: [])))) rfl ?_
 refine hK19 _ _ ?_
 refine wp_block ?_
 replace HS := (HS.nil (Kd.bool) rfl 4).nil kPg rfl 38
 refine c_loop (ι := Nat × Value × Value) (fun i_ a_ w_ => match i_ with | (m, vs, vb) => ∃ (u6 : Value) (u7 : Value) (u8 : Value) (u9 : Value) (u10 : Value) (u11 : Value) (u12 : Value) (u13 : Value) (u14 : Value) (u15 : Value) (u16 : Value) (u17 : Value) (u18 : Value) (u19 : Value) (u20 : Value) (u21 : Value) (u22 : Value) (u23 : Value) (u24 : Value) (u25 : Value), a_ = fr (.int .i64 pages :: undef :: .pointer (some ⟨g5, 0, none⟩) :: .pointer (some ⟨g12, 0, none⟩) :: .int .i64 (m : Int) :: .agg ([.slice none 0 0, .slice none 0 0, .slice none 0 0, .bool false, .int .i64 0, .bool false] : List Value).toArray :: u6 :: u7 :: u8 :: u9 :: u10 :: u11 :: u12 :: u13 :: u14 :: u15 :: u16 :: u17 :: u18 :: u19 :: u20 :: u21 :: u22 :: u23 :: u24 :: u25 :: undef :: []) ∧ St w0 F w_ (row kPg rfl 38 vs (List.replicate m zpg) :: row Kd.bool rfl 4 vb (List.replicate m false) :: blk g12 [vs, vb, .slice none 0 0, .bool false, .int .i64 0, .bool false] 53 :: blk g5 [.slice none 0 0, .slice none 0 0, .slice none 0 0, .bool false, .int .i64 0, .bool false] 53 :: L) ∧ (m ≤ nOf pages)) (fun i_ => match i_ with | (m, vs, vb) => nOf pages - m) (0, .slice none 0 0, .slice none 0 0) ?_ ?_
 ·exact ⟨_, _, _, _, _, _, _, _, _, _, _, _, _, _, _, _, _, _, _, _, rfl, ((((HS.front 3 rfl).front 3 rfl).front 3 rfl).front 3 rfl), Nat.zero_le _⟩
 ·clear HS
  rintro ⟨m, vs, vb⟩ a_ w24 ⟨u6, u7, u8, u9, u10, u11, u12, u13, u14, u15, u16, u17, u18, u19, u20, u21, u22, u23, u24, u25, rfl, HS, hI⟩ J22 hJ23
  have hml := hI
  refine wp_seq_k (fun K25 hK26 => ?_)
  refine wp_seq_k (fun K27 hK28 => ?_)
  rcases (by omega : (¬ (m : Int) < pages) ∨ ((m : Int) < pages ∧ ¬ (m : Int) < 244) ∨ ((m : Int) < pages ∧ (m : Int) < 244)) with h1 | ⟨h1, h2⟩ | ⟨h1, h2⟩
  ·have hme := nof_end hml (.inl h1)
   refine c_region (fun ops30 hops29 => ?_)
   refine p_run _ (x_move (.int .i64 (m : Int)) rfl rfl) rfl ?_
   refine p_run _ (x_move (.int .i64 pages) rfl rfl) rfl ?_
   refine p_run _ (x_cmp (k := .i64) (m := (m : Int)) (n := pages) .lss false rfl rfl rfl (decide_eq_false h1) rfl) rfl ?_
   refine p_run _ (x_move (.bool false) rfl rfl) rfl ?_
   refine p_off (by rw [hops29]; rfl) rfl ?_
   refine p_off (by rw [hops29]; rfl) rfl ?_
   refine p_run _ (x_pick false (undef) (.bool false) (.bool false) rfl rfl rfl rfl rfl) rfl ?_
   clear hops29
   refine wpList_nil ?_
   refine fr_at (l' := (.int .i64 pages :: undef :: .pointer (some ⟨g5, 0, none⟩) :: .pointer (some ⟨g12, 0, none⟩) :: .int .i64 (m : Int) :: .agg ([.slice none 0 0, .slice none 0 0, .slice none 0 0, .bool false, .int .i64 0, .bool false] : List Value).toArray :: .int .i64 (m : Int) :: .int .i64 pages :: .bool false :: .bool false :: undef :: undef :: .bool false :: u13 :: u14 :: u15 :: u16 :: u17 :: u18 :: u19 :: u20 :: u21 :: u22 :: u23 :: u24 :: u25 :: undef :: [])) rfl ?_
   refine hK28 _ _ ?_
   refine c_false rfl ?_
   refine wp_exit ?_
   refine hK17 _ _ ?_
   refine wp_seq_k (fun K31 hK32 => ?_)
   refine c_region (fun ops34 hops33 => ?_)
   clear hops33
   refine p_run _ (x_loads [vs, vb, .slice none 0 0, .bool false, .int .i64 0, .bool false] 6 rfl rfl (bkCells (HS.get (.tail _ (.tail _ (.head _)))) 0 _ rfl) (by rfl) (by kernel_rfl) rfl) rfl ?_
   refine St.stores (cs' := [vs, vb, .slice none 0 0, .bool false, .int .i64 0, .bool false]) (HS.front 3 rfl) [vs, vb, .slice none 0 0, .bool false, .int .i64 0, .bool false] 6 rfl rfl (all1 (row_one (HS.get (.head _))) (all1 (row_one (HS.get (.tail _ (.head _)))) (all1 rfl (all1 rfl (all1 rfl (all1 rfl rfl)))))) (by kernel_rfl) rfl (by simp) rfl ?_
   clear HS
   intro w35 HS
   refine wpList_nil ?_
   refine hK32 _ _ ?_
   refine wp_ret ?_
   try simp only [Exit.inBlock, Exit.then]
   refine c_ret (.agg ([vs, vb, .slice none 0 0, .bool false, .int .i64 0, .bool false] : List Value).toArray) (r_c rfl rfl (run_loadVar_aggn (by rfl) [vs, vb, .slice none 0 0, .bool false, .int .i64 0, .bool false] 6 (by kernel_rfl) rfl (bkCells (HS.get (.head _)) 0 _ (whole _)))) ?_
   replace HS := HS.nil kWr rfl 87
   rw [hme] at HS
   exact ⟨vs, vb, rfl, ((((HS.front 1 rfl).drop.front 3 rfl).drop.front 2 rfl).front 2 rfl)⟩
  ·have hme := nof_end hml (.inr h2)
   refine c_region (fun ops37 hops36 => ?_)
   refine p_run _ (x_move (.int .i64 (m : Int)) rfl rfl) rfl ?_
   refine p_run _ (x_move (.int .i64 pages) rfl rfl) rfl ?_
   refine p_run _ (x_cmp (k := .i64) (m := (m : Int)) (n := pages) .lss true rfl rfl rfl (decide_eq_true h1) rfl) rfl ?_
   refine p_run _ (x_move (.bool true) rfl rfl) rfl ?_
   refine p_on rfl (by rw [hops36]; rfl) ?_
   refine p_run _ (x_move (.int .i64 (m : Int)) rfl rfl) rfl ?_
   refine p_on rfl (by rw [hops36]; rfl) ?_
   refine p_run _ (x_cmp (k := .i64) (m := (m : Int)) (n := 244) .lss false rfl rfl rfl (decide_eq_false h2) rfl) rfl ?_
   refine p_run _ (x_pick true (.bool false) (.bool false) (.bool false) rfl rfl rfl rfl rfl) rfl ?_
   clear hops36
   refine wpList_nil ?_
   refine fr_at (l' := (.int .i64 pages :: undef :: .pointer (some ⟨g5, 0, none⟩) :: .pointer (some ⟨g12, 0, none⟩) :: .int .i64 (m : Int) :: .agg ([.slice none 0 0, .slice none 0 0, .slice none 0 0, .bool false, .int .i64 0, .bool false] : List Value).toArray :: .int .i64 (m : Int) :: .int .i64 pages :: .bool true :: .bool true :: .int .i64 (m : Int) :: .bool false :: .bool false :: u13 :: u14 :: u15 :: u16 :: u17 :: u18 :: u19 :: u20 :: u21 :: u22 :: u23 :: u24 :: u25 :: undef :: [])) rfl ?_
   refine hK28 _ _ ?_
   refine c_false rfl ?_
   refine wp_exit ?_
   refine hK17 _ _ ?_
   refine wp_seq_k (fun K38 hK39 => ?_)
   refine c_region (fun ops41 hops40 => ?_)
   clear hops40
   refine p_run _ (x_loads [vs, vb, .slice none 0 0, .bool false, .int .i64 0, .bool false] 6 rfl rfl (bkCells (HS.get (.tail _ (.tail _ (.head _)))) 0 _ rfl) (by rfl) (by kernel_rfl) rfl) rfl ?_
   refine St.stores (cs' := [vs, vb, .slice none 0 0, .bool false, .int .i64 0, .bool false]) (HS.front 3 rfl) [vs, vb, .slice none 0 0, .bool false, .int .i64 0, .bool false] 6 rfl rfl (all1 (row_one (HS.get (.head _))) (all1 (row_one (HS.get (.tail _ (.head _)))) (all1 rfl (all1 rfl (all1 rfl (all1 rfl rfl)))))) (by kernel_rfl) rfl (by simp) rfl ?_
   clear HS
   intro w42 HS
   refine wpList_nil ?_
   refine hK39 _ _ ?_
   refine wp_ret ?_
   try simp only [Exit.inBlock, Exit.then]
   refine c_ret (.agg ([vs, vb, .slice none 0 0, .bool false, .int .i64 0, .bool false] : List Value).toArray) (r_c rfl rfl (run_loadVar_aggn (by rfl) [vs, vb, .slice none 0 0, .bool false, .int .i64 0, .bool false] 6 (by kernel_rfl) rfl (bkCells (HS.get (.head _)) 0 _ (whole _)))) ?_
   replace HS := HS.nil kWr rfl 87
   rw [hme] at HS
   exact ⟨vs, vb, rfl, ((((HS.front 1 rfl).drop.front 3 rfl).drop.front 2 rfl).front 2 rfl)⟩
  ·have hmb : m + 1 ≤ 244 := by omega
   refine c_region (fun ops44 hops43 => ?_)
   refine p_run _ (x_move (.int .i64 (m : Int)) rfl rfl) rfl ?_
   refine p_run _ (x_move (.int .i64 pages) rfl rfl) rfl ?_
   refine p_run _ (x_cmp (k := .i64) (m := (m : Int)) (n := pages) .lss true rfl rfl rfl (decide_eq_true h1) rfl) rfl ?_
   refine p_run _ (x_move (.bool true) rfl rfl) rfl ?_
   refine p_on rfl (by rw [hops43]; rfl) ?_
   refine p_run _ (x_move (.int .i64 (m : Int)) rfl rfl) rfl ?_
   refine p_on rfl (by rw [hops43]; rfl) ?_
   refine p_run _ (x_cmp (k := .i64) (m := (m : Int)) (n := 244) .lss true rfl rfl rfl (decide_eq_true h2) rfl) rfl ?_
   refine p_run _ (x_pick true (.bool true) (.bool false) (.bool true) rfl rfl rfl rfl rfl) rfl ?_
   clear hops43
   refine wpList_nil ?_
   refine fr_at (l' := (.int .i64 pages :: undef :: .pointer (some ⟨g5, 0, none⟩) :: .pointer (some ⟨g12, 0, none⟩) :: .int .i64 (m : Int) :: .agg ([.slice none 0 0, .slice none 0 0, .slice none 0 0, .bool false, .int .i64 0, .bool false] : List Value).toArray :: .int .i64 (m : Int) :: .int .i64 pages :: .bool true :: .bool true :: .int .i64 (m : Int) :: .bool true :: .bool true :: u13 :: u14 :: u15 :: u16 :: u17 :: u18 :: u19 :: u20 :: u21 :: u22 :: u23 :: u24 :: u25 :: undef :: [])) rfl ?_
   refine hK28 _ _ ?_
   refine c_true rfl ?_
   refine wp_skip ?_
   refine hK26 _ _ ?_
   refine wp_seq_k (fun K45 hK46 => ?_)
   refine wp_block ?_
   refine wp_seq_k (fun K47 hK48 => ?_)
   refine c_region (fun ops50 hops49 => ?_)
   clear hops49
   refine p_run _ (x_field (j := 0) _ _ rfl rfl Try.underlying53 rfl (by rfl) rfl) rfl ?_
   refine p_run _ (x_load (vs) rfl rfl (bkCell (HS.get (.tail _ (.tail _ (.head _)))) 0 _ rfl) (by rfl)) rfl ?_
   refine p_run _ (x_build ((nums .u8 zpg)) rfl (by kernel_rfl)) rfl ?_
   refine St.wLit1 HS ((nums .u8 zpg)) 256 (.agg ((nums .u8 zpg)).toArray) (.agg ((nums .u8 zpg)).toArray) Try.underlying49 (by kernel_rfl) (by decide) rfl rfl (by simp [nums_length, zlen]) ?_
   clear HS
   intro g51 w52 hg53 HS
   replace HS := (HS.front 1 rfl)
   refine St.wAppend HS ((.agg (nums .u8 zpg).toArray)) 256 Try.underlying49 (by kernel_rfl) (by kernel_rfl) (by decide) (by decide) [zpg] _ _ _ rfl rfl (lit_reads (HS.get (.tail _ (.head _))) ((Reps.none _ _).snoc (p := zpg) ⟨rfl, zlen⟩ (by simp [kPg, flatK, nums_length, zlen])) (by simp)) (fun _ _ h => h) (by simp; omega) ?_
   clear HS
   intro v54 w55 HS
   refine p_run _ (x_field (j := 0) _ _ rfl rfl Try.underlying53 rfl (by rfl) rfl) rfl ?_
   refine St.store (cs' := [v54, vb, .slice none 0 0, .bool false, .int .i64 0, .bool false]) (HS.front 3 rfl) (v54) rfl rfl (row_one (HS.get (.head _))) (by kernel_rfl) (by rfl) rfl ?_
   clear HS
   intro w56 HS
   refine wpList_nil ?_
   refine hK48 _ _ ?_
   refine c_region (fun ops58 hops57 => ?_)
   clear hops57
   refine p_run _ (x_field (j := 1) _ _ rfl rfl Try.underlying53 rfl (by rfl) rfl) rfl ?_
   refine p_run _ (x_load (vb) rfl rfl (bkCell (HS.get (.head _)) 1 _ rfl) (by rfl)) rfl ?_
   refine St.wLit1 HS [.bool false] 1 (.bool false) (.bool false) Try.underlying50 (by kernel_rfl) (by decide) rfl rfl rfl ?_
   clear HS
   intro g59 w60 hg61 HS
   refine fr_to (l' := (.int .i64 pages :: undef :: .pointer (some ⟨g5, 0, none⟩) :: .pointer (some ⟨g12, 0, none⟩) :: .int .i64 (m : Int) :: .agg ([.slice none 0 0, .slice none 0 0, .slice none 0 0, .bool false, .int .i64 0, .bool false] : List Value).toArray :: .int .i64 (m : Int) :: .int .i64 pages :: .bool true :: .bool true :: .int .i64 (m : Int) :: .bool true :: .bool true :: u13 :: u14 :: .pointer (some ⟨g12, 0, none⟩) :: vs :: .agg ((nums .u8 zpg)).toArray :: .slice (some ⟨g51, 0, none⟩) 1 1 :: v54 :: .pointer (some ⟨g12, 0, none⟩) :: .pointer (some ⟨g12, 1, none⟩) :: vb :: .slice (some ⟨g59, 0, none⟩) 1 1 :: u24 :: u25 :: undef :: [])) rfl ?_
   replace HS := (HS.front 4 rfl)
   refine St.wAppend HS ((.bool false)) 1 Try.underlying50 (by kernel_rfl) rfl (by decide) (by decide) [false] _ _ _ rfl rfl (lit_reads (HS.get (.tail _ (.head _))) ((Reps.none _ _).snoc (p := false) rfl rfl) (by simp)) (fun _ _ h => h) (by simp; omega) ?_
   clear HS
   intro v62 w63 HS
   refine p_run _ (x_field (j := 1) _ _ rfl rfl Try.underlying53 rfl (by rfl) rfl) rfl ?_
   refine St.store (cs' := [v54, v62, .slice none 0 0, .bool false, .int .i64 0, .bool false]) (HS.front 2 rfl) (v62) rfl rfl (row_one (HS.get (.head _))) (by kernel_rfl) (by rfl) rfl ?_
   clear HS
   intro w64 HS
   refine wpList_nil ?_
   refine hK46 _ _ ?_
   refine c_region (fun ops66 hops65 => ?_)
   clear hops65
   refine p_run _ (x_move (.int .i64 (m : Int)) rfl rfl) rfl ?_
   refine p_run _ (x_arith (k := .i64) (m := (m : Int)) (n := 1) .add (((m + 1 : Nat) : Int)) rfl rfl rfl (show IntKind.i64.wrap ((m : Int) + 1) = ((m + 1 : Nat) : Int) from ((wr64 (by omega)).trans (by omega))) rfl) rfl ?_
   refine p_run _ (x_assign (.int .i64 ((m + 1 : Nat) : Int)) rfl rfl) rfl ?_
   refine wpList_nil ?_
   refine fr_at (l' := (.int .i64 pages :: undef :: .pointer (some ⟨g5, 0, none⟩) :: .pointer (some ⟨g12, 0, none⟩) :: .int .i64 ((m + 1 : Nat) : Int) :: .agg ([.slice none 0 0, .slice none 0 0, .slice none 0 0, .bool false, .int .i64 0, .bool false] : List Value).toArray :: .int .i64 (m : Int) :: .int .i64 pages :: .bool true :: .bool true :: .int .i64 (m : Int) :: .bool true :: .bool true :: .int .i64 (m : Int) :: .int .i64 ((m + 1 : Nat) : Int) :: .pointer (some ⟨g12, 0, none⟩) :: vs :: .agg ((nums .u8 zpg)).toArray :: .slice (some ⟨g51, 0, none⟩) 1 1 :: v54 :: .pointer (some ⟨g12, 0, none⟩) :: .pointer (some ⟨g12, 1, none⟩) :: vb :: .slice (some ⟨g59, 0, none⟩) 1 1 :: v62 :: .pointer (some ⟨g12, 1, none⟩) :: undef :: [])) rfl ?_
   rw [← List.replicate_succ', ← List.replicate_succ'] at HS
   refine hJ23 (m + 1, v54, v62) _ _ ?_ ?_
   ·show nOf pages - (m + 1) < nOf pages - m; have := nof_step h1 h2; omega
   ·exact ⟨_, _, _, _, _, _, _, _, _, _, _, _, _, _, _, _, _, _, _, _, rfl, ((((((HS.front 2 rfl).drop.front 3 rfl).drop.front 3 rfl).front 1 rfl).front 2 rfl).front 3 rfl), nof_step h1 h2⟩
end
end Go.Proofs.Ytenlkobjldhfgaa
