/- Several texts in one: Rd1, Rd2, Rd3. -/
import Derived.Test.YtenlkobjldhfgaaZRootRunsL4b
import Derived.Test.YtenlkobjldhfgaaZRootRunsWkSS
import Derived.Test.YtenlkobjldhfgaaZRootRunsV8
set_option linter.unusedVariables false
set_option linter.unusedSimpArgs false
namespace Go.Proofs.Ytenlkobjldhfgaa
open Go.RowKit Go.Proofs.YtenlkobjldhfgaaW.PrintWords Go.Proofs.YtenlkobjldhfgaaW.PrintLast
abbrev U4vrd1 (l : List Value) : List Value := undef :: undef :: undef :: undef :: l
abbrev U8vrd1 (l : List Value) : List Value := U4vrd1 (U4vrd1 l)
abbrev U16vrd1 (l : List Value) : List Value := U8vrd1 (U8vrd1 l)
structure Rk where
 stable : List (List Int)
 bad : List Bool
 pending : List (Int × List Int)
 counted : Bool
 left : Int
 down : Bool
abbrev rkV (vs vb vp : Value) (R : Rk) : Value := .agg #[vs, vb, vp, .bool R.counted, .int .i64 R.left, .bool R.down]
abbrev rk (vs vb vp : Value) (R : Rk) (L : List Res) : List Res := row kPg rfl 38 vs R.stable :: row Kd.bool rfl 4 vb R.bad :: row kWr rfl 87 vp R.pending :: L
section
variable {w0 W : World} {F : Nat → Prop} {L : List Res} {vs vb vp : Value} {R : Rk}
def Rk.there (R : Rk) (i : Int) : Bool := decide (0 ≤ i ∧ i < (R.stable.length : Int))
def Rk.acts (R : Rk) : Bool := !R.down && !(R.counted && decide (R.left = 0))
def Rk.act (R : Rk) : Rk := if R.acts = true then { R with left := if R.counted = true then R.left - 1 else R.left } else { R with down := true }
def Rk.actE (R : Rk) : Int := if R.acts = true then 0 else 42
set_option maxRecDepth 10000 in
theorem rkThere_any (HS : St w0 F W (rk vs vb vp R L)) (i : Int) : Calls Try.prog 40 #[.agg ([vs, vb, vp, .bool R.counted, .int .i64 R.left, .bool R.down] : List Value).toArray, .int .i64 i] W fun e w' => e = .returned (.bool (R.there i)) ∧ St w0 F w' (rk vs vb vp R L) := by
 obtain ⟨As, cs, hvs, hcs, -⟩ := row_reads (HS.get (.head _))
 subst hvs
 by_cases h00 : 0 ≤ i
 ·have h0 : decide (i ≥ 0) = true := decide_eq_true h00
  by_cases h11 : i < (R.stable.length : Int)
  ·have h1 := decide_eq_true h11
   refine c_enter Try.func40 rfl 14 rfl (.agg ([.slice As R.stable.length cs, vb, vp, .bool R.counted, .int .i64 R.left, .bool R.down] : List Value).toArray :: .int .i64 i :: U8vrd1 (U4vrd1 ([]))) rfl ?_
   refine wp_seq_k (fun K1 hK2 => ?_)
   refine c_region (fun ops4 hops3 => ?_)
   clear hops3
   refine St.wBox HS (cs := [.slice As R.stable.length cs, vb, vp, .bool R.counted, .int .i64 R.left, .bool R.down]) (.agg ([.slice As R.stable.length cs, vb, vp, .bool R.counted, .int .i64 R.left, .bool R.down] : List Value).toArray) rfl rfl ?_
   clear HS
   intro g5 w6 hg7 HS
   refine p_run _ (x_assign (.bool false) rfl rfl) rfl ?_
   refine wpList_nil ?_
   refine hK2 _ _ ?_
   refine wp_seq_k (fun K8 hK9 => ?_)
   refine c_region (fun ops11 hops10 => ?_)
   refine p_run _ (x_move (.int .i64 i) rfl rfl) rfl ?_
   refine p_run _ (x_cmp (k := .i64) (m := i) (n := 0) .geq true rfl rfl rfl h0 rfl) rfl ?_
   refine p_run _ (x_move (.bool true) rfl rfl) rfl ?_
   refine p_on rfl (by rw [hops10]; rfl) ?_
   refine p_run _ (x_move (.int .i64 i) rfl rfl) rfl ?_
   refine p_on rfl (by rw [hops10]; rfl) ?_
   refine p_run _ (x_field (j := 0) _ _ rfl rfl Try.underlying53 rfl (by rfl) rfl) rfl ?_
   refine p_on rfl (by rw [hops10]; rfl) ?_
   refine p_run _ (x_load (.slice As R.stable.length cs) rfl rfl (bkCell (HS.get (.head _)) 0 _ rfl) (by rfl)) rfl ?_
   refine p_on rfl (by rw [hops10]; rfl) ?_
   refine p_run (l' := (.agg ([.slice As R.stable.length cs, vb, vp, .bool R.counted, .int .i64 R.left, .bool R.down] : List Value).toArray :: .int .i64 i :: .pointer (some ⟨g5, 0, none⟩) :: undef :: .bool false :: .int .i64 i :: .bool true :: .bool true :: .int .i64 i :: .pointer (some ⟨g5, 0, none⟩) :: .slice As R.stable.length cs :: .int .i64 (R.stable.length : Int) :: undef :: undef :: [])) _ (x_len rfl rfl Try.underlying49) rfl ?_
   refine p_on rfl (by rw [hops10]; rfl) ?_
   refine p_run _ (x_cmp (k := .i64) (m := i) (n := (R.stable.length : Int)) .lss true rfl rfl rfl h1 rfl) rfl ?_
   refine p_run _ (x_pick true (.bool true) (.bool false) (.bool true) rfl rfl rfl rfl rfl) rfl ?_
   refine p_run _ (x_assign (.bool true) rfl rfl) rfl ?_
   clear hops10
   refine wpList_nil ?_
   refine hK9 _ _ ?_
   refine wp_ret ?_
   try simp only [Exit.inBlock, Exit.then]
   refine c_ret (.bool true) (r_tmp rfl rfl) ?_
   rw [show R.there i = true from decide_eq_true ⟨h00, h11⟩]
   exact ⟨rfl, (((HS.drop.front 2 rfl).front 2 rfl).front 2 rfl)⟩
  ·have h1 := decide_eq_false h11
   refine c_enter Try.func40 rfl 14 rfl (.agg ([.slice As R.stable.length cs, vb, vp, .bool R.counted, .int .i64 R.left, .bool R.down] : List Value).toArray :: .int .i64 i :: U8vrd1 (U4vrd1 ([]))) rfl ?_
   refine wp_seq_k (fun K1 hK2 => ?_)
   refine c_region (fun ops4 hops3 => ?_)
   clear hops3
   refine St.wBox HS (cs := [.slice As R.stable.length cs, vb, vp, .bool R.counted, .int .i64 R.left, .bool R.down]) (.agg ([.slice As R.stable.length cs, vb, vp, .bool R.counted, .int .i64 R.left, .bool R.down] : List Value).toArray) rfl rfl ?_
   clear HS
   intro g5 w6 hg7 HS
   refine p_run _ (x_assign (.bool false) rfl rfl) rfl ?_
   refine wpList_nil ?_
   refine hK2 _ _ ?_
   refine wp_seq_k (fun K8 hK9 => ?_)
   refine c_region (fun ops11 hops10 => ?_)
   refine p_run _ (x_move (.int .i64 i) rfl rfl) rfl ?_
   refine p_run _ (x_cmp (k := .i64) (m := i) (n := 0) .geq true rfl rfl rfl h0 rfl) rfl ?_
   refine p_run _ (x_move (.bool true) rfl rfl) rfl ?_
   refine p_on rfl (by rw [hops10]; rfl) ?_
   refine p_run _ (x_move (.int .i64 i) rfl rfl) rfl ?_
   refine p_on rfl (by rw [hops10]; rfl) ?_
   refine p_run _ (x_field (j := 0) _ _ rfl rfl Try.underlying53 rfl (by rfl) rfl) rfl ?_
   refine p_on rfl (by rw [hops10]; rfl) ?_
   refine p_run _ (x_load (.slice As R.stable.length cs) rfl rfl (bkCell (HS.get (.head _)) 0 _ rfl) (by rfl)) rfl ?_
   refine p_on rfl (by rw [hops10]; rfl) ?_
   refine p_run (l' := (.agg ([.slice As R.stable.length cs, vb, vp, .bool R.counted, .int .i64 R.left, .bool R.down] : List Value).toArray :: .int .i64 i :: .pointer (some ⟨g5, 0, none⟩) :: undef :: .bool false :: .int .i64 i :: .bool true :: .bool true :: .int .i64 i :: .pointer (some ⟨g5, 0, none⟩) :: .slice As R.stable.length cs :: .int .i64 (R.stable.length : Int) :: undef :: undef :: [])) _ (x_len rfl rfl Try.underlying49) rfl ?_
   refine p_on rfl (by rw [hops10]; rfl) ?_
   refine p_run _ (x_cmp (k := .i64) (m := i) (n := (R.stable.length : Int)) .lss false rfl rfl rfl h1 rfl) rfl ?_
   refine p_run _ (x_pick true (.bool false) (.bool false) (.bool false) rfl rfl rfl rfl rfl) rfl ?_
   refine p_run _ (x_assign (.bool false) rfl rfl) rfl ?_
   clear hops10
   refine wpList_nil ?_
   refine hK9 _ _ ?_
   refine wp_ret ?_
   try simp only [Exit.inBlock, Exit.then]
   refine c_ret (.bool false) (r_tmp rfl rfl) ?_
   rw [show R.there i = false from decide_eq_false (fun h => h11 h.2)]
   exact ⟨rfl, (((HS.drop.front 2 rfl).front 2 rfl).front 2 rfl)⟩
 ·have h0 : decide (i ≥ 0) = false := decide_eq_false h00
  refine c_enter Try.func40 rfl 14 rfl (.agg ([.slice As R.stable.length cs, vb, vp, .bool R.counted, .int .i64 R.left, .bool R.down] : List Value).toArray :: .int .i64 i :: U8vrd1 (U4vrd1 ([]))) rfl ?_
  refine wp_seq_k (fun K1 hK2 => ?_)
  refine c_region (fun ops4 hops3 => ?_)
  clear hops3
  refine St.wBox HS (cs := [.slice As R.stable.length cs, vb, vp, .bool R.counted, .int .i64 R.left, .bool R.down]) (.agg ([.slice As R.stable.length cs, vb, vp, .bool R.counted, .int .i64 R.left, .bool R.down] : List Value).toArray) rfl rfl ?_
  clear HS
  intro g5 w6 hg7 HS
  refine p_run _ (x_assign (.bool false) rfl rfl) rfl ?_
  refine wpList_nil ?_
  refine hK2 _ _ ?_
  refine wp_seq_k (fun K8 hK9 => ?_)
  refine c_region (fun ops11 hops10 => ?_)
  refine p_run _ (x_move (.int .i64 i) rfl rfl) rfl ?_
  refine p_run _ (x_cmp (k := .i64) (m := i) (n := 0) .geq false rfl rfl rfl h0 rfl) rfl ?_
  refine p_run _ (x_move (.bool false) rfl rfl) rfl ?_
  refine p_off (by rw [hops10]; rfl) rfl ?_
  refine p_off (by rw [hops10]; rfl) rfl ?_
  refine p_off (by rw [hops10]; rfl) rfl ?_
  refine p_off (l' := (.agg ([.slice As R.stable.length cs, vb, vp, .bool R.counted, .int .i64 R.left, .bool R.down] : List Value).toArray :: .int .i64 i :: .pointer (some ⟨g5, 0, none⟩) :: undef :: .bool false :: .int .i64 i :: .bool false :: .bool false :: U4vrd1 (undef :: undef :: []))) (by rw [hops10]; rfl) rfl ?_
  refine p_off (by rw [hops10]; rfl) rfl ?_
  refine p_run _ (x_pick false (undef) (.bool false) (.bool false) rfl rfl rfl rfl rfl) rfl ?_
  refine p_run _ (x_assign (.bool false) rfl rfl) rfl ?_
  clear hops10
  refine wpList_nil ?_
  refine hK9 _ _ ?_
  refine wp_ret ?_
  try simp only [Exit.inBlock, Exit.then]
  refine c_ret (.bool false) (r_tmp rfl rfl) ?_
  rw [show R.there i = false from decide_eq_false (fun h => h00 h.1)]
  exact ⟨rfl, (((HS.drop.front 2 rfl).front 2 rfl).front 2 rfl)⟩
set_option maxRecDepth 10000 in
theorem rkAct_any (HS : St w0 F W (rk vs vb vp R L)) (hl : R.counted = true → 0 ≤ R.left ∧ R.left < 9223372036854775808) : Calls Try.prog 41 #[.agg ([vs, vb, vp, .bool R.counted, .int .i64 R.left, .bool R.down] : List Value).toArray] W fun e w' => e = .returned (.tuple #[rkV vs vb vp R.act, .int .i64 R.actE]) ∧ St w0 F w' (rk vs vb vp R.act L) := by
 rcases hd : R.down with _ | _
 ·rcases hc : R.counted with _ | _
  ·have hz : True := trivial
   refine c_enter Try.func41 rfl 24 rfl (.agg ([vs, vb, vp, .bool false, .int .i64 R.left, .bool false] : List Value).toArray :: U16vrd1 (U4vrd1 (undef :: undef :: undef :: []))) rfl ?_
   refine wp_seq_k (fun K1 hK2 => ?_)
   refine c_region (fun ops4 hops3 => ?_)
   clear hops3
   refine St.wBox HS (cs := [vs, vb, vp, .bool false, .int .i64 R.left, .bool false]) (.agg ([vs, vb, vp, .bool false, .int .i64 R.left, .bool false] : List Value).toArray) rfl rfl ?_
   clear HS
   intro g5 w6 hg7 HS
   refine St.wAlloc HS (cs := [.slice none 0 0, .slice none 0 0, .slice none 0 0, .bool false, .int .i64 0, .bool false]) (.agg [.slice none 0 0, .slice none 0 0, .slice none 0 0, .bool false, .int .i64 0, .bool false].toArray) (by kernel_rfl) rfl ?_
   clear HS
   intro g8 w9 hg10 HS
   refine p_run _ (x_assign (.int .i64 0) rfl rfl) rfl ?_
   refine wpList_nil ?_
   refine hK2 _ _ ?_
   refine wp_seq_k (fun K11 hK12 => ?_)
   refine wp_seq_k (fun K13 hK14 => ?_)
   refine c_region (fun ops16 hops15 => ?_)
   refine p_run _ (x_field (j := 5) _ _ rfl rfl Try.underlying53 rfl (by rfl) rfl) rfl ?_
   refine p_run _ (x_load (.bool false) rfl rfl (bkCell (HS.get (.tail _ (.head _))) 5 _ rfl) (by rfl)) rfl ?_
   refine p_run _ (x_move (.bool false) rfl rfl) rfl ?_
   refine p_on rfl (by rw [hops15]; rfl) ?_
   refine p_run _ (x_field (j := 3) _ _ rfl rfl Try.underlying53 rfl (by rfl) rfl) rfl ?_
   refine p_on rfl (by rw [hops15]; rfl) ?_
   refine p_run _ (x_load (.bool false) rfl rfl (bkCell (HS.get (.tail _ (.head _))) 3 _ rfl) (by rfl)) rfl ?_
   refine p_on rfl (by rw [hops15]; rfl) ?_
   refine p_run (l' := (.agg ([vs, vb, vp, .bool false, .int .i64 R.left, .bool false] : List Value).toArray :: .pointer (some ⟨g5, 0, none⟩) :: .pointer (some ⟨g8, 0, none⟩) :: .int .i64 0 :: .pointer (some ⟨g5, 5, none⟩) :: .bool false :: .bool false :: .pointer (some ⟨g5, 3, none⟩) :: .bool false :: .bool false :: U8vrd1 (U4vrd1 (undef :: undef :: [])))) _ (x_move (.bool false) rfl rfl) rfl ?_
   refine p_off (by rw [hops15]; rfl) rfl ?_
   refine p_off (by rw [hops15]; rfl) rfl ?_
   refine p_off (by rw [hops15]; rfl) rfl ?_
   refine p_on rfl (by rw [hops15]; rfl) ?_
   refine p_run _ (x_pick false (undef) (.bool false) (.bool false) rfl rfl rfl rfl rfl) rfl ?_
   refine p_run _ (x_pick false (.bool true) (.bool false) (.bool false) rfl rfl rfl rfl rfl) rfl ?_
   clear hops15
   refine wpList_nil ?_
   refine hK14 _ _ ?_
   refine c_false rfl ?_
   refine wp_skip ?_
   refine hK12 _ _ ?_
   refine wp_seq_k (fun K17 hK18 => ?_)
   refine wp_seq_k (fun K19 hK20 => ?_)
   refine c_region (fun ops22 hops21 => ?_)
   clear hops21
   refine p_run _ (x_field (j := 3) _ _ rfl rfl Try.underlying53 rfl (by rfl) rfl) rfl ?_
   refine p_run _ (x_load (.bool false) rfl rfl (bkCell (HS.get (.tail _ (.head _))) 3 _ rfl) (by rfl)) rfl ?_
   refine wpList_nil ?_
   obtain ⟨qz23, hqz23⟩ : ∃ q_ : V8, q_ = ⟨.bool false, .bool false, undef, undef, undef, .bool false, .bool false, undef⟩ := ⟨_, rfl⟩
   refine fr_at (l' := (.agg ([vs, vb, vp, .bool false, .int .i64 R.left, .bool false] : List Value).toArray :: .pointer (some ⟨g5, 0, none⟩) :: .pointer (some ⟨g8, 0, none⟩) :: .int .i64 0 :: .pointer (some ⟨g5, 5, none⟩) :: .bool false :: .bool false :: .pointer (some ⟨g5, 3, none⟩) :: V8.l qz23 (undef :: .pointer (some ⟨g5, 3, none⟩) :: .bool false :: U4vrd1 (undef :: [])))) (by subst hqz23; rfl) ?_
   refine hK20 _ _ ?_
   refine c_false rfl ?_
   refine wp_skip ?_
   refine hK18 _ _ ?_
   refine wp_seq_k (fun K24 hK25 => ?_)
   refine c_region (fun ops27 hops26 => ?_)
   clear hops26
   refine p_run _ (x_loads [vs, vb, vp, .bool false, .int .i64 R.left, .bool false] 6 rfl rfl (bkCells (HS.get (.tail _ (.head _))) 0 _ rfl) (by rfl) (by kernel_rfl) rfl) rfl ?_
   refine St.stores (cs' := [vs, vb, vp, .bool false, .int .i64 R.left, .bool false]) HS [vs, vb, vp, .bool false, .int .i64 R.left, .bool false] 6 rfl rfl (all1 (row_one (HS.get (.tail _ (.tail _ (.head _))))) (all1 (row_one (HS.get (.tail _ (.tail _ (.tail _ (.head _)))))) (all1 (row_one (HS.get (.tail _ (.tail _ (.tail _ (.tail _ (.head _))))))) (all1 rfl (all1 rfl (all1 rfl rfl)))))) (by kernel_rfl) rfl (by simp) rfl ?_
   clear HS
   intro w28 HS
   refine p_run _ (x_assign (.int .i64 0) rfl rfl) rfl ?_
   refine wpList_nil ?_
   refine hK25 _ _ ?_
   refine wp_ret ?_
   try simp only [Exit.inBlock, Exit.then]
   refine c_ret (.tuple [.agg ([vs, vb, vp, .bool false, .int .i64 R.left, .bool false] : List Value).toArray, .int .i64 0].toArray) (r_ct rfl rfl (run_loadVar_aggn (by rfl) [vs, vb, vp, .bool false, .int .i64 R.left, .bool false] 6 (by kernel_rfl) rfl (bkCells (HS.get (.head _)) 0 _ (whole _))) rfl) ?_
   have e0 : R.acts = true := by unfold Rk.acts; rw [hd, hc]; rfl
   have e1 : R.act = R := by unfold Rk.act; rw [if_pos e0, if_neg (by rw [hc]; decide)]
   have e2 : R.actE = 0 := by unfold Rk.actE; rw [if_pos e0]
   rw [e1, e2]
   exact ⟨by simp [rkV, hc, hd], (((HS.drop.drop.front 2 rfl).front 2 rfl).front 2 rfl)⟩
  ·have hl' := hl hc
   by_cases hz' : R.left = 0
   ·have hz : cmpB .eql R.left 0 = true := by rw [hz']; rfl
    refine c_enter Try.func41 rfl 24 rfl (.agg ([vs, vb, vp, .bool true, .int .i64 R.left, .bool false] : List Value).toArray :: U16vrd1 (U4vrd1 (undef :: undef :: undef :: []))) rfl ?_
    refine wp_seq_k (fun K1 hK2 => ?_)
    refine c_region (fun ops4 hops3 => ?_)
    clear hops3
    refine St.wBox HS (cs := [vs, vb, vp, .bool true, .int .i64 R.left, .bool false]) (.agg ([vs, vb, vp, .bool true, .int .i64 R.left, .bool false] : List Value).toArray) rfl rfl ?_
    clear HS
    intro g5 w6 hg7 HS
    refine St.wAlloc HS (cs := [.slice none 0 0, .slice none 0 0, .slice none 0 0, .bool false, .int .i64 0, .bool false]) (.agg [.slice none 0 0, .slice none 0 0, .slice none 0 0, .bool false, .int .i64 0, .bool false].toArray) (by kernel_rfl) rfl ?_
    clear HS
    intro g8 w9 hg10 HS
    refine p_run _ (x_assign (.int .i64 0) rfl rfl) rfl ?_
    refine wpList_nil ?_
    refine hK2 _ _ ?_
    refine wp_seq_k (fun K11 hK12 => ?_)
    refine wp_seq_k (fun K13 hK14 => ?_)
    refine c_region (fun ops16 hops15 => ?_)
    refine p_run _ (x_field (j := 5) _ _ rfl rfl Try.underlying53 rfl (by rfl) rfl) rfl ?_
    refine p_run _ (x_load (.bool false) rfl rfl (bkCell (HS.get (.tail _ (.head _))) 5 _ rfl) (by rfl)) rfl ?_
    refine p_run _ (x_move (.bool false) rfl rfl) rfl ?_
    refine p_on rfl (by rw [hops15]; rfl) ?_
    refine p_run _ (x_field (j := 3) _ _ rfl rfl Try.underlying53 rfl (by rfl) rfl) rfl ?_
    refine p_on rfl (by rw [hops15]; rfl) ?_
    refine p_run _ (x_load (.bool true) rfl rfl (bkCell (HS.get (.tail _ (.head _))) 3 _ rfl) (by rfl)) rfl ?_
    refine p_on rfl (by rw [hops15]; rfl) ?_
    refine p_run (l' := (.agg ([vs, vb, vp, .bool true, .int .i64 R.left, .bool false] : List Value).toArray :: .pointer (some ⟨g5, 0, none⟩) :: .pointer (some ⟨g8, 0, none⟩) :: .int .i64 0 :: .pointer (some ⟨g5, 5, none⟩) :: .bool false :: .bool false :: .pointer (some ⟨g5, 3, none⟩) :: .bool true :: .bool true :: U8vrd1 (U4vrd1 (undef :: undef :: [])))) _ (x_move (.bool true) rfl rfl) rfl ?_
    refine p_on rfl (by rw [hops15]; rfl) ?_
    refine p_run _ (x_field (j := 4) _ _ rfl rfl Try.underlying53 rfl (by rfl) rfl) rfl ?_
    refine p_on rfl (by rw [hops15]; rfl) ?_
    refine p_run _ (x_load (.int .i64 R.left) rfl rfl (bkCell (HS.get (.tail _ (.head _))) 4 _ rfl) (by rfl)) rfl ?_
    refine p_on rfl (by rw [hops15]; rfl) ?_
    refine p_run _ (x_cmp (k := .i64) (m := R.left) (n := 0) .eql true rfl rfl rfl hz rfl) rfl ?_
    refine p_on rfl (by rw [hops15]; rfl) ?_
    refine p_run _ (x_pick true (.bool true) (.bool false) (.bool true) rfl rfl rfl rfl rfl) rfl ?_
    refine p_run _ (x_pick false (.bool true) (.bool true) (.bool true) rfl rfl rfl rfl rfl) rfl ?_
    clear hops15
    refine wpList_nil ?_
    refine hK14 _ _ ?_
    refine c_true rfl ?_
    refine wp_seq_k (fun K17 hK18 => ?_)
    refine c_region (fun ops20 hops19 => ?_)
    clear hops19
    refine p_run _ (x_field (j := 5) _ _ rfl rfl Try.underlying53 rfl (by rfl) rfl) rfl ?_
    refine St.store (cs' := [vs, vb, vp, .bool true, .int .i64 R.left, .bool true]) (HS.front 1 rfl) (.bool true) rfl rfl rfl (by kernel_rfl) (by rfl) rfl ?_
    clear HS
    intro w21 HS
    refine wpList_nil ?_
    refine hK18 _ _ ?_
    refine wp_seq_k (fun K22 hK23 => ?_)
    refine c_region (fun ops25 hops24 => ?_)
    clear hops24
    refine p_run _ (x_loads [vs, vb, vp, .bool true, .int .i64 R.left, .bool true] 6 rfl rfl (bkCells (HS.get (.head _)) 0 _ rfl) (by rfl) (by kernel_rfl) rfl) rfl ?_
    refine St.stores (cs' := [vs, vb, vp, .bool true, .int .i64 R.left, .bool true]) (HS.front 1 rfl) [vs, vb, vp, .bool true, .int .i64 R.left, .bool true] 6 rfl rfl (all1 (row_one (HS.get (.tail _ (.tail _ (.head _))))) (all1 (row_one (HS.get (.tail _ (.tail _ (.tail _ (.head _)))))) (all1 (row_one (HS.get (.tail _ (.tail _ (.tail _ (.tail _ (.head _))))))) (all1 rfl (all1 rfl (all1 rfl rfl)))))) (by kernel_rfl) rfl (by simp) rfl ?_
    clear HS
    intro w26 HS
    refine p_run _ (x_assign (.int .i64 42) rfl rfl) rfl ?_
    refine wpList_nil ?_
    obtain ⟨qz27, hqz27⟩ : ∃ q_ : V8, q_ = ⟨.bool true, .bool true, .pointer (some ⟨g5, 4, none⟩), .int .i64 R.left, .bool true, .bool true, .bool true, .pointer (some ⟨g5, 5, none⟩)⟩ := ⟨_, rfl⟩
    refine fr_at (l' := (.agg ([vs, vb, vp, .bool true, .int .i64 R.left, .bool false] : List Value).toArray :: .pointer (some ⟨g5, 0, none⟩) :: .pointer (some ⟨g8, 0, none⟩) :: .int .i64 42 :: .pointer (some ⟨g5, 5, none⟩) :: .bool false :: .bool false :: .pointer (some ⟨g5, 3, none⟩) :: V8.l qz27 (.agg ([vs, vb, vp, .bool true, .int .i64 R.left, .bool true] : List Value).toArray :: U4vrd1 (undef :: undef :: undef :: [])))) (by subst hqz27; rfl) ?_
    refine hK23 _ _ ?_
    refine wp_ret ?_
    try simp only [Exit.inBlock, Exit.then]
    refine c_ret (.tuple [.agg ([vs, vb, vp, .bool true, .int .i64 R.left, .bool true] : List Value).toArray, .int .i64 42].toArray) (r_ct rfl rfl (run_loadVar_aggn (by rfl) [vs, vb, vp, .bool true, .int .i64 R.left, .bool true] 6 (by kernel_rfl) rfl (bkCells (HS.get (.head _)) 0 _ (whole _))) rfl) ?_
    have e0 : R.acts = false := by unfold Rk.acts; rw [hd, hc]; simp [hz']
    have e1 : R.act = { R with down := true } := by unfold Rk.act; rw [e0]; rfl
    have e2 : R.actE = 42 := by unfold Rk.actE; rw [e0]; rfl
    rw [e1, e2]
    exact ⟨by simp [rkV, hc, hd], (((HS.drop.drop.front 2 rfl).front 2 rfl).front 2 rfl)⟩
   ·have hz : cmpB .eql R.left 0 = false := by simpa [cmpB] using hz'
    refine c_enter Try.func41 rfl 24 rfl (.agg ([vs, vb, vp, .bool true, .int .i64 R.left, .bool false] : List Value).toArray :: U16vrd1 (U4vrd1 (undef :: undef :: undef :: []))) rfl ?_
    refine wp_seq_k (fun K1 hK2 => ?_)
    refine c_region (fun ops4 hops3 => ?_)
    clear hops3
    refine St.wBox HS (cs := [vs, vb, vp, .bool true, .int .i64 R.left, .bool false]) (.agg ([vs, vb, vp, .bool true, .int .i64 R.left, .bool false] : List Value).toArray) rfl rfl ?_
    clear HS
    intro g5 w6 hg7 HS
    refine St.wAlloc HS (cs := [.slice none 0 0, .slice none 0 0, .slice none 0 0, .bool false, .int .i64 0, .bool false]) (.agg [.slice none 0 0, .slice none 0 0, .slice none 0 0, .bool false, .int .i64 0, .bool false].toArray) (by kernel_rfl) rfl ?_
    clear HS
    intro g8 w9 hg10 HS
    refine p_run _ (x_assign (.int .i64 0) rfl rfl) rfl ?_
    refine wpList_nil ?_
    refine hK2 _ _ ?_
    refine wp_seq_k (fun K11 hK12 => ?_)
    refine wp_seq_k (fun K13 hK14 => ?_)
    refine c_region (fun ops16 hops15 => ?_)
    refine p_run _ (x_field (j := 5) _ _ rfl rfl Try.underlying53 rfl (by rfl) rfl) rfl ?_
    refine p_run _ (x_load (.bool false) rfl rfl (bkCell (HS.get (.tail _ (.head _))) 5 _ rfl) (by rfl)) rfl ?_
    refine p_run _ (x_move (.bool false) rfl rfl) rfl ?_
    refine p_on rfl (by rw [hops15]; rfl) ?_
    refine p_run _ (x_field (j := 3) _ _ rfl rfl Try.underlying53 rfl (by rfl) rfl) rfl ?_
    refine p_on rfl (by rw [hops15]; rfl) ?_
    refine p_run _ (x_load (.bool true) rfl rfl (bkCell (HS.get (.tail _ (.head _))) 3 _ rfl) (by rfl)) rfl ?_
    refine p_on rfl (by rw [hops15]; rfl) ?_
    refine p_run (l' := (.agg ([vs, vb, vp, .bool true, .int .i64 R.left, .bool false] : List Value).toArray :: .pointer (some ⟨g5, 0, none⟩) :: .pointer (some ⟨g8, 0, none⟩) :: .int .i64 0 :: .pointer (some ⟨g5, 5, none⟩) :: .bool false :: .bool false :: .pointer (some ⟨g5, 3, none⟩) :: .bool true :: .bool true :: U8vrd1 (U4vrd1 (undef :: undef :: [])))) _ (x_move (.bool true) rfl rfl) rfl ?_
    refine p_on rfl (by rw [hops15]; rfl) ?_
    refine p_run _ (x_field (j := 4) _ _ rfl rfl Try.underlying53 rfl (by rfl) rfl) rfl ?_
    refine p_on rfl (by rw [hops15]; rfl) ?_
    refine p_run _ (x_load (.int .i64 R.left) rfl rfl (bkCell (HS.get (.tail _ (.head _))) 4 _ rfl) (by rfl)) rfl ?_
    refine p_on rfl (by rw [hops15]; rfl) ?_
    refine p_run _ (x_cmp (k := .i64) (m := R.left) (n := 0) .eql false rfl rfl rfl hz rfl) rfl ?_
    refine p_on rfl (by rw [hops15]; rfl) ?_
    refine p_run _ (x_pick true (.bool false) (.bool false) (.bool false) rfl rfl rfl rfl rfl) rfl ?_
    refine p_run _ (x_pick false (.bool true) (.bool false) (.bool false) rfl rfl rfl rfl rfl) rfl ?_
    clear hops15
    refine wpList_nil ?_
    refine hK14 _ _ ?_
    refine c_false rfl ?_
    refine wp_skip ?_
    refine hK12 _ _ ?_
    refine wp_seq_k (fun K17 hK18 => ?_)
    refine wp_seq_k (fun K19 hK20 => ?_)
    refine c_region (fun ops22 hops21 => ?_)
    clear hops21
    refine p_run _ (x_field (j := 3) _ _ rfl rfl Try.underlying53 rfl (by rfl) rfl) rfl ?_
    refine p_run _ (x_load (.bool true) rfl rfl (bkCell (HS.get (.tail _ (.head _))) 3 _ rfl) (by rfl)) rfl ?_
    refine wpList_nil ?_
    obtain ⟨qz23, hqz23⟩ : ∃ q_ : V8, q_ = ⟨.bool true, .bool true, .pointer (some ⟨g5, 4, none⟩), .int .i64 R.left, .bool false, .bool false, .bool false, undef⟩ := ⟨_, rfl⟩
    refine fr_at (l' := (.agg ([vs, vb, vp, .bool true, .int .i64 R.left, .bool false] : List Value).toArray :: .pointer (some ⟨g5, 0, none⟩) :: .pointer (some ⟨g8, 0, none⟩) :: .int .i64 0 :: .pointer (some ⟨g5, 5, none⟩) :: .bool false :: .bool false :: .pointer (some ⟨g5, 3, none⟩) :: V8.l qz23 (undef :: .pointer (some ⟨g5, 3, none⟩) :: .bool true :: U4vrd1 (undef :: [])))) (by subst hqz23; rfl) ?_
    refine hK20 _ _ ?_
    refine c_true rfl ?_
    refine c_region (fun ops25 hops24 => ?_)
    clear hops24
    refine p_run _ (x_field (j := 4) _ _ rfl rfl Try.underlying53 rfl (by rfl) rfl) rfl ?_
    refine p_run _ (x_load (.int .i64 R.left) rfl rfl (bkCell (HS.get (.tail _ (.head _))) 4 _ rfl) (by rfl)) rfl ?_
    refine p_run _ (x_arith (k := .i64) (m := R.left) (n := 1) .sub ((R.left - 1)) rfl rfl rfl (show IntKind.i64.wrap (R.left - 1) = (R.left - 1) from (wr64 (by omega))) rfl) rfl ?_
    refine p_run _ (x_field (j := 4) _ _ rfl rfl Try.underlying53 rfl (by rfl) rfl) rfl ?_
    refine St.store (cs' := [vs, vb, vp, .bool true, .int .i64 (R.left - 1), .bool false]) (HS.front 1 rfl) (.int .i64 (R.left - 1)) rfl rfl rfl (by kernel_rfl) (by rfl) rfl ?_
    clear HS
    intro w26 HS
    refine wpList_nil ?_
    refine hK18 _ _ ?_
    refine wp_seq_k (fun K27 hK28 => ?_)
    refine c_region (fun ops30 hops29 => ?_)
    clear hops29
    refine p_run _ (x_loads [vs, vb, vp, .bool true, .int .i64 (R.left - 1), .bool false] 6 rfl rfl (bkCells (HS.get (.head _)) 0 _ rfl) (by rfl) (by kernel_rfl) rfl) rfl ?_
    refine St.stores (cs' := [vs, vb, vp, .bool true, .int .i64 (R.left - 1), .bool false]) (HS.front 1 rfl) [vs, vb, vp, .bool true, .int .i64 (R.left - 1), .bool false] 6 rfl rfl (all1 (row_one (HS.get (.tail _ (.tail _ (.head _))))) (all1 (row_one (HS.get (.tail _ (.tail _ (.tail _ (.head _)))))) (all1 (row_one (HS.get (.tail _ (.tail _ (.tail _ (.tail _ (.head _))))))) (all1 rfl (all1 rfl (all1 rfl rfl)))))) (by kernel_rfl) rfl (by simp) rfl ?_
    clear HS
    intro w31 HS
    refine p_run _ (x_assign (.int .i64 0) rfl rfl) rfl ?_
    refine wpList_nil ?_
    refine hK28 _ _ ?_
    refine wp_ret ?_
    try simp only [Exit.inBlock, Exit.then]
    refine c_ret (.tuple [.agg ([vs, vb, vp, .bool true, .int .i64 (R.left - 1), .bool false] : List Value).toArray, .int .i64 0].toArray) (r_ct rfl rfl (run_loadVar_aggn (by rfl) [vs, vb, vp, .bool true, .int .i64 (R.left - 1), .bool false] 6 (by kernel_rfl) rfl (bkCells (HS.get (.head _)) 0 _ (whole _))) rfl) ?_
    have e0 : R.acts = true := by unfold Rk.acts; rw [hd, hc]; simp [hz']
    have e1 : R.act = { R with left := R.left - 1 } := by unfold Rk.act; rw [if_pos e0, if_pos hc]
    have e2 : R.actE = 0 := by unfold Rk.actE; rw [if_pos e0]
    rw [e1, e2]
    exact ⟨by simp [rkV, hc, hd], (((HS.drop.drop.front 2 rfl).front 2 rfl).front 2 rfl)⟩
 ·rcases hc : R.counted with _ | _
  ·refine c_enter Try.func41 rfl 24 rfl (.agg ([vs, vb, vp, .bool false, .int .i64 R.left, .bool true] : List Value).toArray :: U16vrd1 (U4vrd1 (undef :: undef :: undef :: []))) rfl ?_
   refine wp_seq_k (fun K1 hK2 => ?_)
   refine c_region (fun ops4 hops3 => ?_)
   clear hops3
   refine St.wBox HS (cs := [vs, vb, vp, .bool false, .int .i64 R.left, .bool true]) (.agg ([vs, vb, vp, .bool false, .int .i64 R.left, .bool true] : List Value).toArray) rfl rfl ?_
   clear HS
   intro g5 w6 hg7 HS
   refine St.wAlloc HS (cs := [.slice none 0 0, .slice none 0 0, .slice none 0 0, .bool false, .int .i64 0, .bool false]) (.agg [.slice none 0 0, .slice none 0 0, .slice none 0 0, .bool false, .int .i64 0, .bool false].toArray) (by kernel_rfl) rfl ?_
   clear HS
   intro g8 w9 hg10 HS
   refine p_run _ (x_assign (.int .i64 0) rfl rfl) rfl ?_
   refine wpList_nil ?_
   refine hK2 _ _ ?_
   refine wp_seq_k (fun K11 hK12 => ?_)
   refine wp_seq_k (fun K13 hK14 => ?_)
   refine c_region (fun ops16 hops15 => ?_)
   refine p_run _ (x_field (j := 5) _ _ rfl rfl Try.underlying53 rfl (by rfl) rfl) rfl ?_
   refine p_run _ (x_load (.bool true) rfl rfl (bkCell (HS.get (.tail _ (.head _))) 5 _ rfl) (by rfl)) rfl ?_
   refine p_run _ (x_move (.bool true) rfl rfl) rfl ?_
   refine p_off (by rw [hops15]; rfl) rfl ?_
   refine p_off (by rw [hops15]; rfl) rfl ?_
   refine p_off (l' := (.agg ([vs, vb, vp, .bool false, .int .i64 R.left, .bool true] : List Value).toArray :: .pointer (some ⟨g5, 0, none⟩) :: .pointer (some ⟨g8, 0, none⟩) :: .int .i64 0 :: .pointer (some ⟨g5, 5, none⟩) :: .bool true :: .bool true :: U16vrd1 (undef :: []))) (by rw [hops15]; rfl) rfl ?_
   refine p_off (by rw [hops15]; rfl) rfl ?_
   refine p_off (by rw [hops15]; rfl) rfl ?_
   refine p_off (by rw [hops15]; rfl) rfl ?_
   refine p_off (by rw [hops15]; rfl) rfl ?_
   refine p_run _ (x_pick true (.bool true) (undef) (.bool true) rfl rfl rfl rfl rfl) rfl ?_
   clear hops15
   refine wpList_nil ?_
   refine hK14 _ _ ?_
   refine c_true rfl ?_
   refine wp_seq_k (fun K17 hK18 => ?_)
   refine c_region (fun ops20 hops19 => ?_)
   clear hops19
   refine p_run _ (x_field (j := 5) _ _ rfl rfl Try.underlying53 rfl (by rfl) rfl) rfl ?_
   refine St.store (cs' := [vs, vb, vp, .bool false, .int .i64 R.left, .bool true]) (HS.front 1 rfl) (.bool true) rfl rfl rfl (by kernel_rfl) (by rfl) rfl ?_
   clear HS
   intro w21 HS
   refine wpList_nil ?_
   refine hK18 _ _ ?_
   refine wp_seq_k (fun K22 hK23 => ?_)
   refine c_region (fun ops25 hops24 => ?_)
   clear hops24
   refine p_run _ (x_loads [vs, vb, vp, .bool false, .int .i64 R.left, .bool true] 6 rfl rfl (bkCells (HS.get (.head _)) 0 _ rfl) (by rfl) (by kernel_rfl) rfl) rfl ?_
   refine St.stores (cs' := [vs, vb, vp, .bool false, .int .i64 R.left, .bool true]) (HS.front 1 rfl) [vs, vb, vp, .bool false, .int .i64 R.left, .bool true] 6 rfl rfl (all1 (row_one (HS.get (.tail _ (.tail _ (.head _))))) (all1 (row_one (HS.get (.tail _ (.tail _ (.tail _ (.head _)))))) (all1 (row_one (HS.get (.tail _ (.tail _ (.tail _ (.tail _ (.head _))))))) (all1 rfl (all1 rfl (all1 rfl rfl)))))) (by kernel_rfl) rfl (by simp) rfl ?_
   clear HS
   intro w26 HS
   refine p_run _ (x_assign (.int .i64 42) rfl rfl) rfl ?_
   refine wpList_nil ?_
   obtain ⟨qz27, hqz27⟩ : ∃ q_ : V8, q_ = ⟨undef, undef, undef, undef, undef, undef, .bool true, .pointer (some ⟨g5, 5, none⟩)⟩ := ⟨_, rfl⟩
   refine fr_at (l' := (.agg ([vs, vb, vp, .bool false, .int .i64 R.left, .bool true] : List Value).toArray :: .pointer (some ⟨g5, 0, none⟩) :: .pointer (some ⟨g8, 0, none⟩) :: .int .i64 42 :: .pointer (some ⟨g5, 5, none⟩) :: .bool true :: .bool true :: undef :: V8.l qz27 (.agg ([vs, vb, vp, .bool false, .int .i64 R.left, .bool true] : List Value).toArray :: U4vrd1 (undef :: undef :: undef :: [])))) (by subst hqz27; rfl) ?_
   refine hK23 _ _ ?_
   refine wp_ret ?_
   try simp only [Exit.inBlock, Exit.then]
   refine c_ret (.tuple [.agg ([vs, vb, vp, .bool false, .int .i64 R.left, .bool true] : List Value).toArray, .int .i64 42].toArray) (r_ct rfl rfl (run_loadVar_aggn (by rfl) [vs, vb, vp, .bool false, .int .i64 R.left, .bool true] 6 (by kernel_rfl) rfl (bkCells (HS.get (.head _)) 0 _ (whole _))) rfl) ?_
   have e0 : R.acts = false := by unfold Rk.acts; rw [hd, hc]; simp
   have e1 : R.act = { R with down := true } := by unfold Rk.act; rw [e0]; rfl
   have e2 : R.actE = 42 := by unfold Rk.actE; rw [e0]; rfl
   rw [e1, e2]
   exact ⟨by simp [rkV, hc, hd], (((HS.drop.drop.front 2 rfl).front 2 rfl).front 2 rfl)⟩
  ·refine c_enter Try.func41 rfl 24 rfl (.agg ([vs, vb, vp, .bool true, .int .i64 R.left, .bool true] : List Value).toArray :: U16vrd1 (U4vrd1 (undef :: undef :: undef :: []))) rfl ?_
   refine wp_seq_k (fun K1 hK2 => ?_)
   refine c_region (fun ops4 hops3 => ?_)
   clear hops3
   refine St.wBox HS (cs := [vs, vb, vp, .bool true, .int .i64 R.left, .bool true]) (.agg ([vs, vb, vp, .bool true, .int .i64 R.left, .bool true] : List Value).toArray) rfl rfl ?_
   clear HS
   intro g5 w6 hg7 HS
   refine St.wAlloc HS (cs := [.slice none 0 0, .slice none 0 0, .slice none 0 0, .bool false, .int .i64 0, .bool false]) (.agg [.slice none 0 0, .slice none 0 0, .slice none 0 0, .bool false, .int .i64 0, .bool false].toArray) (by kernel_rfl) rfl ?_
   clear HS
   intro g8 w9 hg10 HS
   refine p_run _ (x_assign (.int .i64 0) rfl rfl) rfl ?_
   refine wpList_nil ?_
   refine hK2 _ _ ?_
   refine wp_seq_k (fun K11 hK12 => ?_)
   refine wp_seq_k (fun K13 hK14 => ?_)
   refine c_region (fun ops16 hops15 => ?_)
   refine p_run _ (x_field (j := 5) _ _ rfl rfl Try.underlying53 rfl (by rfl) rfl) rfl ?_
   refine p_run _ (x_load (.bool true) rfl rfl (bkCell (HS.get (.tail _ (.head _))) 5 _ rfl) (by rfl)) rfl ?_
   refine p_run _ (x_move (.bool true) rfl rfl) rfl ?_
   refine p_off (by rw [hops15]; rfl) rfl ?_
   refine p_off (by rw [hops15]; rfl) rfl ?_
   refine p_off (l' := (.agg ([vs, vb, vp, .bool true, .int .i64 R.left, .bool true] : List Value).toArray :: .pointer (some ⟨g5, 0, none⟩) :: .pointer (some ⟨g8, 0, none⟩) :: .int .i64 0 :: .pointer (some ⟨g5, 5, none⟩) :: .bool true :: .bool true :: U16vrd1 (undef :: []))) (by rw [hops15]; rfl) rfl ?_
   refine p_off (by rw [hops15]; rfl) rfl ?_
   refine p_off (by rw [hops15]; rfl) rfl ?_
   refine p_off (by rw [hops15]; rfl) rfl ?_
   refine p_off (by rw [hops15]; rfl) rfl ?_
   refine p_run _ (x_pick true (.bool true) (undef) (.bool true) rfl rfl rfl rfl rfl) rfl ?_
   clear hops15
   refine wpList_nil ?_
   refine hK14 _ _ ?_
   refine c_true rfl ?_
   refine wp_seq_k (fun K17 hK18 => ?_)
   refine c_region (fun ops20 hops19 => ?_)
   clear hops19
   refine p_run _ (x_field (j := 5) _ _ rfl rfl Try.underlying53 rfl (by rfl) rfl) rfl ?_
   refine St.store (cs' := [vs, vb, vp, .bool true, .int .i64 R.left, .bool true]) (HS.front 1 rfl) (.bool true) rfl rfl rfl (by kernel_rfl) (by rfl) rfl ?_
   clear HS
   intro w21 HS
   refine wpList_nil ?_
   refine hK18 _ _ ?_
   refine wp_seq_k (fun K22 hK23 => ?_)
   refine c_region (fun ops25 hops24 => ?_)
   clear hops24
   refine p_run _ (x_loads [vs, vb, vp, .bool true, .int .i64 R.left, .bool true] 6 rfl rfl (bkCells (HS.get (.head _)) 0 _ rfl) (by rfl) (by kernel_rfl) rfl) rfl ?_
   refine St.stores (cs' := [vs, vb, vp, .bool true, .int .i64 R.left, .bool true]) (HS.front 1 rfl) [vs, vb, vp, .bool true, .int .i64 R.left, .bool true] 6 rfl rfl (all1 (row_one (HS.get (.tail _ (.tail _ (.head _))))) (all1 (row_one (HS.get (.tail _ (.tail _ (.tail _ (.head _)))))) (all1 (row_one (HS.get (.tail _ (.tail _ (.tail _ (.tail _ (.head _))))))) (all1 rfl (all1 rfl (all1 rfl rfl)))))) (by kernel_rfl) rfl (by simp) rfl ?_
   clear HS
   intro w26 HS
   refine p_run _ (x_assign (.int .i64 42) rfl rfl) rfl ?_
   refine wpList_nil ?_
   obtain ⟨qz27, hqz27⟩ : ∃ q_ : V8, q_ = ⟨undef, undef, undef, undef, undef, undef, .bool true, .pointer (some ⟨g5, 5, none⟩)⟩ := ⟨_, rfl⟩
   refine fr_at (l' := (.agg ([vs, vb, vp, .bool true, .int .i64 R.left, .bool true] : List Value).toArray :: .pointer (some ⟨g5, 0, none⟩) :: .pointer (some ⟨g8, 0, none⟩) :: .int .i64 42 :: .pointer (some ⟨g5, 5, none⟩) :: .bool true :: .bool true :: undef :: V8.l qz27 (.agg ([vs, vb, vp, .bool true, .int .i64 R.left, .bool true] : List Value).toArray :: U4vrd1 (undef :: undef :: undef :: [])))) (by subst hqz27; rfl) ?_
   refine hK23 _ _ ?_
   refine wp_ret ?_
   try simp only [Exit.inBlock, Exit.then]
   refine c_ret (.tuple [.agg ([vs, vb, vp, .bool true, .int .i64 R.left, .bool true] : List Value).toArray, .int .i64 42].toArray) (r_ct rfl rfl (run_loadVar_aggn (by rfl) [vs, vb, vp, .bool true, .int .i64 R.left, .bool true] 6 (by kernel_rfl) rfl (bkCells (HS.get (.head _)) 0 _ (whole _))) rfl) ?_
   have e0 : R.acts = false := by unfold Rk.acts; rw [hd, hc]; simp
   have e1 : R.act = { R with down := true } := by unfold Rk.act; rw [e0]; rfl
   have e2 : R.actE = 42 := by unfold Rk.actE; rw [e0]; rfl
   rw [e1, e2]
   exact ⟨by simp [rkV, hc, hd], (((HS.drop.drop.front 2 rfl).front 2 rfl).front 2 rfl)⟩
end
end Go.Proofs.Ytenlkobjldhfgaa
set_option linter.unusedVariables false
set_option linter.unusedSimpArgs false
namespace Go.Proofs.Ytenlkobjldhfgaa
open Go.RowKit Go.Proofs.YtenlkobjldhfgaaW.PrintWords Go.Proofs.YtenlkobjldhfgaaW.PrintLast
abbrev U4vrd2 (l : List Value) : List Value := undef :: undef :: undef :: undef :: l
abbrev U8vrd2 (l : List Value) : List Value := U4vrd2 (U4vrd2 l)
abbrev U16vrd2 (l : List Value) : List Value := U8vrd2 (U8vrd2 l)
section
variable {w0 W : World} {F : Nat → Prop} {L : List Res} {vs vb vp : Value} {R : Rk}
theorem sc_blk {α : Type} {enc : α → Value} {h1 : ∀ x, (enc x).oneCell' = true} {hE : (Kd.scalar enc h1).E = []} {w : World} {e : Nat} {v : Value} {xs : List α} (h : (row (Kd.scalar enc h1) hE e v xs).holds w) (hn : xs ≠ []) :
  ∃ g c sp, v = .slice (some ⟨g, 0, none⟩) xs.length c ∧ (blk g (xs.map enc ++ sp) e).holds w ∧ xs.length ≤ c ∧ c ≤ maxLen ∧ (xs.map enc ++ sp).length = c := by
 have hpos : 0 < xs.length := by
  cases xs with
  | nil => exact absurd rfl hn
  | cons => simp
 have ho := Kd.own_of_R (row_own h)
 rcases ho.2 with ⟨-, h0⟩ | ⟨g', cap', cur, rfl, hge, hg', hnc, hcm, hcs, htake⟩
 ·omega
 ·have e1 : xs.map enc = cur.toList.take (xs.length * 1) := by rw [htake]; rfl
  refine ⟨g', cap', cur.toList.drop (xs.length * 1), rfl, ?_, hnc, hcm, ?_⟩
  ·rw [e1, List.take_append_drop]
   show w.heap[g']? = _
   simpa using hg'
  ·rw [e1, List.take_append_drop, Array.length_toList, hcs, Nat.mul_one]
theorem blk_sc {α : Type} {enc : α → Value} {h1 : ∀ x, (enc x).oneCell' = true} {hE : (Kd.scalar enc h1).E = []} {w : World} {e g c : Nat} {xs : List α} {sp : List Value} (h : (blk g (xs.map enc ++ sp) e).holds w) (hc : xs.length ≤ c) (hm : c ≤ maxLen) (hl : (xs.map enc ++ sp).length = c) :
  (row (Kd.scalar enc h1) hE e (.slice (some ⟨g, 0, none⟩) xs.length c) xs).holds w := by
 refine rowOf_ (base := 0) (ok := fun _ => True) (Kd.R_of_own (h1 := h1) (base := 0) ⟨by simp [encs], .inr ⟨g, c, (xs.map enc ++ sp).toArray, rfl, Nat.zero_le _, h, hc, hm, by rw [List.size_toArray, hl, Nat.mul_one], ?_⟩⟩ (fun _ _ => trivial))
 show (xs.map enc ++ sp).take (xs.length * 1) = xs.map enc
 exact List.take_left' (by simp)
def Rk.cut (R : Rk) (n : Int) : Rk := { R with counted := decide (n ≥ 0), left := n }
def Rk.pageE (R : Rk) (i : Int) : Int := if R.there i = true then 0 else 41
def Rk.spoil (R : Rk) (i : Int) (b : Bool) : Rk := if R.there i = true then { R with bad := R.bad.set i.toNat b } else R
set_option maxRecDepth 10000 in
theorem rkCut_any (HS : St w0 F W (rk vs vb vp R L)) (n : Int) : Calls Try.prog 22 #[.agg ([vs, vb, vp, .bool R.counted, .int .i64 R.left, .bool R.down] : List Value).toArray, .int .i64 n] W fun e w' => e = .returned (rkV vs vb vp (R.cut n)) ∧ St w0 F w' (rk vs vb vp (R.cut n) L) := by
 refine c_enter Try.func22 rfl 11 rfl [.agg ([vs, vb, vp, .bool R.counted, .int .i64 R.left, .bool R.down] : List Value).toArray, .int .i64 n, undef, undef, undef, undef, undef, undef, undef, undef, undef] rfl ?_
 refine wp_seq_k (fun K1 hK2 => ?_)
 refine c_region (fun ops4 hops3 => ?_)
 clear hops3
 refine St.wBox HS (cs := [vs, vb, vp, .bool R.counted, .int .i64 R.left, .bool R.down]) (.agg ([vs, vb, vp, .bool R.counted, .int .i64 R.left, .bool R.down] : List Value).toArray) rfl rfl ?_
 clear HS
 intro g5 w6 hg7 HS
 refine St.wAlloc HS (cs := [.slice none 0 0, .slice none 0 0, .slice none 0 0, .bool false, .int .i64 0, .bool false]) (.agg [.slice none 0 0, .slice none 0 0, .slice none 0 0, .bool false, .int .i64 0, .bool false].toArray) (by kernel_rfl) rfl ?_
 clear HS
 intro g8 w9 hg10 HS
 refine wpList_nil ?_
 refine hK2 _ _ ?_
 refine wp_seq_k (fun K11 hK12 => ?_)
 refine c_region (fun ops14 hops13 => ?_)
 clear hops13
 refine p_run _ (x_move (.int .i64 n) rfl rfl) rfl ?_
 refine p_run _ (x_cmp (k := .i64) (m := n) (n := 0) .geq (decide (n ≥ 0)) rfl rfl rfl rfl rfl) rfl ?_
 refine p_run _ (x_field (j := 3) _ _ rfl rfl Try.underlying53 rfl (by rfl) rfl) rfl ?_
 refine St.store (cs' := [vs, vb, vp, .bool (decide (n ≥ 0)), .int .i64 R.left, .bool R.down]) (HS.front 1 rfl) (.bool (decide (n ≥ 0))) rfl rfl rfl (by kernel_rfl) (by rfl) rfl ?_
 clear HS
 intro w15 HS
 refine wpList_nil ?_
 refine hK12 _ _ ?_
 refine wp_seq_k (fun K16 hK17 => ?_)
 refine c_region (fun ops19 hops18 => ?_)
 clear hops18
 refine p_run _ (x_move (.int .i64 n) rfl rfl) rfl ?_
 refine p_run _ (x_field (j := 4) _ _ rfl rfl Try.underlying53 rfl (by rfl) rfl) rfl ?_
 refine St.store (cs' := [vs, vb, vp, .bool (decide (n ≥ 0)), .int .i64 n, .bool R.down]) HS (.int .i64 n) rfl rfl rfl (by kernel_rfl) (by rfl) rfl ?_
 clear HS
 intro w20 HS
 refine wpList_nil ?_
 refine fr_at (l' := [.agg ([vs, vb, vp, .bool R.counted, .int .i64 R.left, .bool R.down] : List Value).toArray, .int .i64 n, .pointer (some ⟨g5, 0, none⟩), undef, .pointer (some ⟨g8, 0, none⟩), .int .i64 n, .bool (decide (n ≥ 0)), .pointer (some ⟨g5, 3, none⟩), .int .i64 n, .pointer (some ⟨g5, 4, none⟩), undef]) rfl ?_
 refine hK17 _ _ ?_
 refine wp_seq_k (fun K21 hK22 => ?_)
 refine c_region (fun ops24 hops23 => ?_)
 clear hops23
 refine p_run _ (x_loads [vs, vb, vp, .bool (decide (n ≥ 0)), .int .i64 n, .bool R.down] 6 rfl rfl (bkCells (HS.get (.head _)) 0 _ rfl) (by rfl) (by kernel_rfl) rfl) rfl ?_
 refine St.stores (cs' := [vs, vb, vp, .bool (decide (n ≥ 0)), .int .i64 n, .bool R.down]) (HS.front 1 rfl) [vs, vb, vp, .bool (decide (n ≥ 0)), .int .i64 n, .bool R.down] 6 rfl rfl (all1 (row_one (HS.get (.tail _ (.tail _ (.head _))))) (all1 (row_one (HS.get (.tail _ (.tail _ (.tail _ (.head _)))))) (all1 (row_one (HS.get (.tail _ (.tail _ (.tail _ (.tail _ (.head _))))))) (all1 rfl (all1 rfl (all1 rfl rfl)))))) (by kernel_rfl) rfl (by simp) rfl ?_
 clear HS
 intro w25 HS
 refine wpList_nil ?_
 refine hK22 _ _ ?_
 refine wp_ret ?_
 try simp only [Exit.inBlock, Exit.then]
 refine c_ret (.agg ([vs, vb, vp, .bool (decide (n ≥ 0)), .int .i64 n, .bool R.down] : List Value).toArray) (r_c rfl rfl (run_loadVar_aggn (by rfl) [vs, vb, vp, .bool (decide (n ≥ 0)), .int .i64 n, .bool R.down] 6 (by kernel_rfl) rfl (bkCells (HS.get (.head _)) 0 _ (whole _)))) ?_
 exact ⟨rfl, (((HS.drop.drop.front 2 rfl).front 2 rfl).front 2 rfl)⟩
theorem sc_set {xs : List Bool} {sp : List Value} {j : Nat} (hj : j < xs.length) (b : Bool) (q : Nat) (hq : q = j * 1 := by rfl) : (xs.map Value.bool ++ sp).set q (.bool b) = (xs.set j b).map Value.bool ++ sp := by
 subst hq
 rw [Nat.mul_one, List.set_append, if_pos (by rw [List.length_map]; exact hj), List.map_set]
set_option maxRecDepth 10000 in
theorem rkSpoil_any (HS : St w0 F W (rk vs vb vp R L)) (hb : R.bad.length = R.stable.length) (hsl : R.stable.length ≤ 244) (i : Int) (b : Bool) : Calls Try.prog 25 #[.agg ([vs, vb, vp, .bool R.counted, .int .i64 R.left, .bool R.down] : List Value).toArray, .int .i64 i, .bool b] W fun e w' => ∃ vb', e = .returned (.tuple #[rkV vs vb' vp (R.spoil i b), .int .i64 (R.pageE i)]) ∧ St w0 F w' (rk vs vb' vp (R.spoil i b) L) := by
 rcases ht : R.there i with _ | _
 ·refine c_enter Try.func25 rfl 25 rfl (.agg ([vs, vb, vp, .bool R.counted, .int .i64 R.left, .bool R.down] : List Value).toArray :: .int .i64 i :: .bool b :: U16vrd2 (U4vrd2 (undef :: undef :: []))) rfl ?_
  refine wp_seq_k (fun K1 hK2 => ?_)
  refine c_region (fun ops4 hops3 => ?_)
  clear hops3
  refine St.wBox HS (cs := [vs, vb, vp, .bool R.counted, .int .i64 R.left, .bool R.down]) (.agg ([vs, vb, vp, .bool R.counted, .int .i64 R.left, .bool R.down] : List Value).toArray) rfl rfl ?_
  clear HS
  intro g5 w6 hg7 HS
  refine St.wAlloc HS (cs := [.slice none 0 0, .slice none 0 0, .slice none 0 0, .bool false, .int .i64 0, .bool false]) (.agg [.slice none 0 0, .slice none 0 0, .slice none 0 0, .bool false, .int .i64 0, .bool false].toArray) (by kernel_rfl) rfl ?_
  clear HS
  intro g8 w9 hg10 HS
  refine p_run _ (x_assign (.int .i64 0) rfl rfl) rfl ?_
  refine wpList_nil ?_
  refine hK2 _ _ ?_
  refine wp_seq_k (fun K11 hK12 => ?_)
  refine wp_seq_k (fun K13 hK14 => ?_)
  refine c_region (fun ops16 hops15 => ?_)
  clear hops15
  refine p_run _ (x_loads [vs, vb, vp, .bool R.counted, .int .i64 R.left, .bool R.down] 6 rfl rfl (bkCells (HS.get (.tail _ (.head _))) 0 _ rfl) (by rfl) (by kernel_rfl) rfl) rfl ?_
  refine p_run _ (x_move (.int .i64 i) rfl rfl) rfl ?_
  refine w_call [.agg ([vs, vb, vp, .bool R.counted, .int .i64 R.left, .bool R.down] : List Value).toArray, .int .i64 i] Try.func40 (by kernel_rfl) (by rfl) rfl ?_
  replace HS := (((HS.front 4 rfl).front 4 rfl).front 4 rfl)
  refine (rkThere_any HS _).mono ?_
  clear HS
  rintro e w17 ⟨he_, HS⟩
  rw [ht] at he_
  subst he_
  refine ⟨_, rfl, ?_⟩
  refine p_run _ (x_not false rfl rfl) rfl ?_
  refine wpList_nil ?_
  refine fr_at (l' := (.agg ([vs, vb, vp, .bool R.counted, .int .i64 R.left, .bool R.down] : List Value).toArray :: .int .i64 i :: .bool b :: .pointer (some ⟨g5, 0, none⟩) :: undef :: undef :: .pointer (some ⟨g8, 0, none⟩) :: .int .i64 0 :: undef :: .agg ([vs, vb, vp, .bool R.counted, .int .i64 R.left, .bool R.down] : List Value).toArray :: .int .i64 i :: .bool false :: .bool true :: U8vrd2 (U4vrd2 ([])))) rfl ?_
  refine hK14 _ _ ?_
  refine c_true rfl ?_
  refine wp_seq_k (fun K18 hK19 => ?_)
  refine c_region (fun ops21 hops20 => ?_)
  clear hops20
  refine p_run _ (x_loads [vs, vb, vp, .bool R.counted, .int .i64 R.left, .bool R.down] 6 rfl rfl (bkCells (HS.get (.tail _ (.tail _ (.tail _ (.tail _ (.head _)))))) 0 _ rfl) (by rfl) (by kernel_rfl) rfl) rfl ?_
  refine St.stores (cs' := [vs, vb, vp, .bool R.counted, .int .i64 R.left, .bool R.down]) (HS.front 3 rfl) [vs, vb, vp, .bool R.counted, .int .i64 R.left, .bool R.down] 6 rfl rfl (all1 (row_one (HS.get (.head _))) (all1 (row_one (HS.get (.tail _ (.head _)))) (all1 (row_one (HS.get (.tail _ (.tail _ (.head _))))) (all1 rfl (all1 rfl (all1 rfl rfl)))))) (by kernel_rfl) rfl (by simp) rfl ?_
  clear HS
  intro w22 HS
  refine p_run _ (x_assign (.int .i64 41) rfl rfl) rfl ?_
  refine wpList_nil ?_
  refine hK19 _ _ ?_
  refine wp_ret ?_
  try simp only [Exit.inBlock, Exit.then]
  refine c_ret (.tuple [.agg ([vs, vb, vp, .bool R.counted, .int .i64 R.left, .bool R.down] : List Value).toArray, .int .i64 41].toArray) (r_ct rfl rfl (run_loadVar_aggn (by rfl) [vs, vb, vp, .bool R.counted, .int .i64 R.left, .bool R.down] 6 (by kernel_rfl) rfl (bkCells (HS.get (.head _)) 0 _ (whole _))) rfl) ?_
  have e1 : R.spoil i b = R := if_neg (by rw [ht]; decide)
  have e2 : R.pageE i = 41 := if_neg (by rw [ht]; decide)
  rw [e1, e2]
  exact ⟨vb, rfl, ((((HS.drop.front 3 rfl).drop.front 2 rfl).front 2 rfl).front 2 rfl)⟩
 ·have hi2 := of_decide_eq_true ht
  obtain ⟨i, rfl⟩ := Int.eq_ofNat_of_zero_le hi2.1
  have hib : i < R.bad.length := by omega
  have hne : R.bad ≠ [] := fun h => by rw [h] at hib; simp at hib
  obtain ⟨Ab, cb, hvb, hcb, -⟩ := row_reads (HS.get (.tail _ (.head _)))
  subst hvb
  refine c_enter Try.func25 rfl 25 rfl (.agg ([vs, .slice Ab R.bad.length cb, vp, .bool R.counted, .int .i64 R.left, .bool R.down] : List Value).toArray :: .int .i64 (i : Int) :: .bool b :: U16vrd2 (U4vrd2 (undef :: undef :: []))) rfl ?_
  refine wp_seq_k (fun K1 hK2 => ?_)
  refine c_region (fun ops4 hops3 => ?_)
  clear hops3
  refine St.wBox HS (cs := [vs, .slice Ab R.bad.length cb, vp, .bool R.counted, .int .i64 R.left, .bool R.down]) (.agg ([vs, .slice Ab R.bad.length cb, vp, .bool R.counted, .int .i64 R.left, .bool R.down] : List Value).toArray) rfl rfl ?_
  clear HS
  intro g5 w6 hg7 HS
  refine St.wAlloc HS (cs := [.slice none 0 0, .slice none 0 0, .slice none 0 0, .bool false, .int .i64 0, .bool false]) (.agg [.slice none 0 0, .slice none 0 0, .slice none 0 0, .bool false, .int .i64 0, .bool false].toArray) (by kernel_rfl) rfl ?_
  clear HS
  intro g8 w9 hg10 HS
  refine p_run _ (x_assign (.int .i64 0) rfl rfl) rfl ?_
  refine wpList_nil ?_
  refine hK2 _ _ ?_
  refine wp_seq_k (fun K11 hK12 => ?_)
  refine wp_seq_k (fun K13 hK14 => ?_)
  refine c_region (fun ops16 hops15 => ?_)
  clear hops15
  refine p_run _ (x_loads [vs, .slice Ab R.bad.length cb, vp, .bool R.counted, .int .i64 R.left, .bool R.down] 6 rfl rfl (bkCells (HS.get (.tail _ (.head _))) 0 _ rfl) (by rfl) (by kernel_rfl) rfl) rfl ?_
  refine p_run _ (x_move (.int .i64 (i : Int)) rfl rfl) rfl ?_
  refine w_call [.agg ([vs, .slice Ab R.bad.length cb, vp, .bool R.counted, .int .i64 R.left, .bool R.down] : List Value).toArray, .int .i64 (i : Int)] Try.func40 (by kernel_rfl) (by rfl) rfl ?_
  replace HS := (((HS.front 4 rfl).front 4 rfl).front 4 rfl)
  refine (rkThere_any HS _).mono ?_
  clear HS
  rintro e w17 ⟨he_, HS⟩
  rw [ht] at he_
  subst he_
  refine ⟨_, rfl, ?_⟩
  refine p_run _ (x_not true rfl rfl) rfl ?_
  refine wpList_nil ?_
  refine fr_at (l' := (.agg ([vs, .slice Ab R.bad.length cb, vp, .bool R.counted, .int .i64 R.left, .bool R.down] : List Value).toArray :: .int .i64 (i : Int) :: .bool b :: .pointer (some ⟨g5, 0, none⟩) :: undef :: undef :: .pointer (some ⟨g8, 0, none⟩) :: .int .i64 0 :: undef :: .agg ([vs, .slice Ab R.bad.length cb, vp, .bool R.counted, .int .i64 R.left, .bool R.down] : List Value).toArray :: .int .i64 (i : Int) :: .bool true :: .bool false :: U8vrd2 (U4vrd2 ([])))) rfl ?_
  refine hK14 _ _ ?_
  refine c_false rfl ?_
  refine wp_skip ?_
  refine hK12 _ _ ?_
  refine wp_seq_k (fun K18 hK19 => ?_)
  refine c_region (fun ops21 hops20 => ?_)
  clear hops20
  refine St.wLit0 HS Kd.bool rfl 1 (.bool false) Try.underlying50 (by kernel_rfl) ?_
  clear HS
  intro v22 w23 HS
  refine p_run _ (x_field (j := 1) _ _ rfl rfl Try.underlying53 rfl (by rfl) rfl) rfl ?_
  refine p_run _ (x_load (.slice Ab R.bad.length cb) rfl rfl (bkCell (HS.get (.tail _ (.tail _ (.tail _ (.tail _ (.tail _ (.head _))))))) 1 _ rfl) (by rfl)) rfl ?_
  refine St.wAppend HS ((.bool false)) 1 Try.underlying50 (by kernel_rfl) rfl (by decide) (by decide) R.bad _ _ _ rfl rfl (row_C (HS.get (.tail _ (.tail _ (.head _))))).2.2 (fun _ _ h => h) (by simp; omega) ?_
  clear HS
  intro v24 w25 HS
  refine p_run _ (x_assign (v24) rfl rfl) rfl ?_
  refine wpList_nil ?_
  refine hK19 _ _ ?_
  refine wp_seq_k (fun K26 hK27 => ?_)
  skip
  ·rw [List.nil_append] at HS
   obtain ⟨g, c2, sp, hv2, hb, hc1, hc2, hc3⟩ := sc_blk HS.hs.head hne
   subst hv2
   replace HS := HS.alter hb (fun b h => (congrArg some (show b = g from h)).symm)
   refine c_region (fun ops29 hops28 => ?_)
   clear hops28
   refine p_run _ (x_move (.slice (some ⟨g, 0, none⟩) R.bad.length c2) rfl rfl) rfl ?_
   refine p_run _ (x_move (.int .i64 (i : Int)) rfl rfl) rfl ?_
   refine p_run _ (x_move (.bool b) rfl rfl) rfl ?_
   refine p_run (l' := (.agg ([vs, .slice Ab R.bad.length cb, vp, .bool R.counted, .int .i64 R.left, .bool R.down] : List Value).toArray :: .int .i64 (i : Int) :: .bool b :: .pointer (some ⟨g5, 0, none⟩) :: undef :: undef :: .pointer (some ⟨g8, 0, none⟩) :: .int .i64 0 :: .slice (some ⟨g, 0, none⟩) R.bad.length c2 :: .agg ([vs, .slice Ab R.bad.length cb, vp, .bool R.counted, .int .i64 R.left, .bool R.down] : List Value).toArray :: .int .i64 (i : Int) :: .bool true :: .bool false :: undef :: v22 :: .pointer (some ⟨g5, 1, none⟩) :: .slice Ab R.bad.length cb :: .slice (some ⟨g, 0, none⟩) R.bad.length c2 :: .slice (some ⟨g, 0, none⟩) R.bad.length c2 :: .int .i64 (i : Int) :: .bool b :: .pointer (some ⟨g, i * 1, none⟩) :: undef :: undef :: undef :: [])) (.pointer (some ⟨g, i * 1, none⟩)) ((x_index (A := ⟨g, 0, none⟩) (j := i * 1) (sz := 1) rfl rfl rfl Try.underlying50 (by kernel_rfl) (by omega) rfl).trans (by rw [add_mk, Nat.zero_add])) rfl ?_
   refine St.store (cs' := ((R.bad.set i b).map Value.bool ++ sp)) HS (.bool b) rfl rfl rfl (by kernel_rfl) (decide_eq_true (by rw [hc3]; omega)) (sc_set (by omega) _ _) ?_
   clear HS
   intro w30 HS
   refine wpList_nil ?_
   refine hK27 _ _ ?_
   refine wp_seq_k (fun K31 hK32 => ?_)
   refine c_region (fun ops34 hops33 => ?_)
   clear hops33
   refine p_run _ (x_move (.slice (some ⟨g, 0, none⟩) R.bad.length c2) rfl rfl) rfl ?_
   refine p_run _ (x_field (j := 1) _ _ rfl rfl Try.underlying53 rfl (by rfl) rfl) rfl ?_
   refine St.store (cs' := [vs, .slice (some ⟨g, 0, none⟩) R.bad.length c2, vp, .bool R.counted, .int .i64 R.left, .bool R.down]) (HS.front 5 rfl) (.slice (some ⟨g, 0, none⟩) R.bad.length c2) rfl rfl rfl (by kernel_rfl) (by rfl) rfl ?_
   clear HS
   intro w35 HS
   refine wpList_nil ?_
   refine hK32 _ _ ?_
   refine wp_seq_k (fun K36 hK37 => ?_)
   refine c_region (fun ops39 hops38 => ?_)
   clear hops38
   refine p_run _ (x_loads [vs, .slice (some ⟨g, 0, none⟩) R.bad.length c2, vp, .bool R.counted, .int .i64 R.left, .bool R.down] 6 rfl rfl (bkCells (HS.get (.head _)) 0 _ rfl) (by rfl) (by kernel_rfl) rfl) rfl ?_
   refine St.stores (cs' := [vs, .slice (some ⟨g, 0, none⟩) R.bad.length c2, vp, .bool R.counted, .int .i64 R.left, .bool R.down]) (HS.front 5 rfl) [vs, .slice (some ⟨g, 0, none⟩) R.bad.length c2, vp, .bool R.counted, .int .i64 R.left, .bool R.down] 6 rfl rfl (all1 (row_one (HS.get (.tail _ (.tail _ (.head _))))) (all1 rfl (all1 (row_one (HS.get (.tail _ (.tail _ (.tail _ (.tail _ (.head _))))))) (all1 rfl (all1 rfl (all1 rfl rfl)))))) (by kernel_rfl) rfl (by simp) rfl ?_
   clear HS
   intro w40 HS
   refine p_run _ (x_assign (.int .i64 0) rfl rfl) rfl ?_
   refine wpList_nil ?_
   refine hK37 _ _ ?_
   refine wp_ret ?_
   try simp only [Exit.inBlock, Exit.then]
   refine c_ret (.tuple [.agg ([vs, .slice (some ⟨g, 0, none⟩) R.bad.length c2, vp, .bool R.counted, .int .i64 R.left, .bool R.down] : List Value).toArray, .int .i64 0].toArray) (r_ct rfl rfl (run_loadVar_aggn (by rfl) [vs, .slice (some ⟨g, 0, none⟩) R.bad.length c2, vp, .bool R.counted, .int .i64 R.left, .bool R.down] 6 (by kernel_rfl) rfl (bkCells (HS.get (.head _)) 0 _ (whole _))) rfl) ?_
   replace HS := (HS.front 2 rfl)
   replace HS := HS.alter (blk_sc (h1 := fun _ => rfl) (hE := rfl) HS.hs.head (by rw [List.length_set]; exact hc1) hc2 (by rw [← hc3]; simp)) (fun b h => (Option.some.inj (show some g = some b from h)).symm)
   rw [List.length_set] at HS
   have e1 : R.spoil (i : Int) b = { R with bad := R.bad.set i b } := if_pos ht
   have e2 : R.pageE (i : Int) = 0 := if_pos ht
   rw [e1, e2]
   exact ⟨_, rfl, ((((((HS.front 1 rfl).drop.front 1 rfl).drop.front 2 rfl).drop.front 2 rfl).front 1 rfl).front 2 rfl)⟩
end
end Go.Proofs.Ytenlkobjldhfgaa
set_option linter.unusedVariables false
set_option linter.unusedSimpArgs false
namespace Go.Proofs.Ytenlkobjldhfgaa
open Go.RowKit Go.Proofs.YtenlkobjldhfgaaW.PrintWords Go.Proofs.YtenlkobjldhfgaaW.PrintLast
abbrev U4vrd3 (l : List Value) : List Value := undef :: undef :: undef :: undef :: l
abbrev U8vrd3 (l : List Value) : List Value := U4vrd3 (U4vrd3 l)
abbrev U16vrd3 (l : List Value) : List Value := U8vrd3 (U8vrd3 l)
abbrev U32vrd3 (l : List Value) : List Value := U16vrd3 (U16vrd3 l)
section
variable {w0 W : World} {F : Nat → Prop} {L : List Res} {vs vb vp : Value} {R : Rk}
theorem rk_stable : R.act.stable = R.stable := by unfold Rk.act; split <;> rfl
theorem rk_pend : R.act.pending = R.pending := by unfold Rk.act; split <;> rfl
def Rk.put (R : Rk) (i : Int) (p : List Int) : Rk := if R.there i = true then (if R.acts = true then { R.act with pending := R.act.pending ++ [(i, p)] } else R.act) else R
def Rk.putE (R : Rk) (i : Int) : Int := if R.there i = true then R.actE else 41
set_option maxRecDepth 10000 in
theorem rkPut_any (HS : St w0 F W (rk vs vb vp R L)) (hl : R.counted = true → 0 ≤ R.left ∧ R.left < 9223372036854775808) (hpn : R.pending.length ≤ 1000) (i : Int) (p : List Int) (hp : p.length = 256) : Calls Try.prog 21 #[.agg ([vs, vb, vp, .bool R.counted, .int .i64 R.left, .bool R.down] : List Value).toArray, .int .i64 i, .agg ((nums .u8 p)).toArray] W fun e w' => ∃ vp', e = .returned (.tuple #[rkV vs vb vp' (R.put i p), .int .i64 (R.putE i)]) ∧ St w0 F w' (rk vs vb vp' (R.put i p) L) := by
 rcases ht : R.there i with _ | _
 ·refine c_enter Try.func21 rfl 35 rfl (.agg ([vs, vb, vp, .bool R.counted, .int .i64 R.left, .bool R.down] : List Value).toArray :: .int .i64 i :: .agg ((nums .u8 p)).toArray :: U32vrd3 ([])) rfl ?_
  refine wp_seq_k (fun K1 hK2 => ?_)
  refine c_region (fun ops4 hops3 => ?_)
  clear hops3
  refine St.wBox HS (cs := [vs, vb, vp, .bool R.counted, .int .i64 R.left, .bool R.down]) (.agg ([vs, vb, vp, .bool R.counted, .int .i64 R.left, .bool R.down] : List Value).toArray) rfl rfl ?_
  clear HS
  intro g5 w6 hg7 HS
  refine St.wBox HS (cs := ((nums .u8 p))) (.agg ((nums .u8 p)).toArray) rfl rfl ?_
  clear HS
  intro g8 w9 hg10 HS
  refine St.wAlloc HS (cs := [.slice none 0 0, .slice none 0 0, .slice none 0 0, .bool false, .int .i64 0, .bool false]) (.agg [.slice none 0 0, .slice none 0 0, .slice none 0 0, .bool false, .int .i64 0, .bool false].toArray) (by kernel_rfl) rfl ?_
  clear HS
  intro g11 w12 hg13 HS
  refine p_run _ (x_assign (.int .i64 0) rfl rfl) rfl ?_
  refine wpList_nil ?_
  refine hK2 _ _ ?_
  refine wp_seq_k (fun K14 hK15 => ?_)
  refine wp_seq_k (fun K16 hK17 => ?_)
  refine c_region (fun ops19 hops18 => ?_)
  clear hops18
  refine p_run _ (x_loads [vs, vb, vp, .bool R.counted, .int .i64 R.left, .bool R.down] 6 rfl rfl (bkCells (HS.get (.tail _ (.tail _ (.head _)))) 0 _ rfl) (by rfl) (by kernel_rfl) rfl) rfl ?_
  refine p_run _ (x_move (.int .i64 i) rfl rfl) rfl ?_
  refine w_call [.agg ([vs, vb, vp, .bool R.counted, .int .i64 R.left, .bool R.down] : List Value).toArray, .int .i64 i] Try.func40 (by kernel_rfl) (by rfl) rfl ?_
  replace HS := (((HS.front 5 rfl).front 5 rfl).front 5 rfl)
  refine (rkThere_any HS _).mono ?_
  clear HS
  rintro e w20 ⟨he_, HS⟩
  rw [ht] at he_
  subst he_
  refine ⟨_, rfl, ?_⟩
  refine p_run _ (x_not false rfl rfl) rfl ?_
  refine wpList_nil ?_
  refine fr_at (l' := (.agg ([vs, vb, vp, .bool R.counted, .int .i64 R.left, .bool R.down] : List Value).toArray :: .int .i64 i :: .agg ((nums .u8 p)).toArray :: .pointer (some ⟨g5, 0, none⟩) :: undef :: .pointer (some ⟨g8, 0, none⟩) :: .pointer (some ⟨g11, 0, none⟩) :: .int .i64 0 :: undef :: undef :: .agg ([vs, vb, vp, .bool R.counted, .int .i64 R.left, .bool R.down] : List Value).toArray :: .int .i64 i :: .bool false :: .bool true :: U16vrd3 (U4vrd3 (undef :: [])))) rfl ?_
  refine hK17 _ _ ?_
  refine c_true rfl ?_
  refine wp_seq_k (fun K21 hK22 => ?_)
  refine c_region (fun ops24 hops23 => ?_)
  clear hops23
  refine p_run _ (x_loads [vs, vb, vp, .bool R.counted, .int .i64 R.left, .bool R.down] 6 rfl rfl (bkCells (HS.get (.tail _ (.tail _ (.tail _ (.tail _ (.tail _ (.head _))))))) 0 _ rfl) (by rfl) (by kernel_rfl) rfl) rfl ?_
  refine St.stores (cs' := [vs, vb, vp, .bool R.counted, .int .i64 R.left, .bool R.down]) (HS.front 3 rfl) [vs, vb, vp, .bool R.counted, .int .i64 R.left, .bool R.down] 6 rfl rfl (all1 (row_one (HS.get (.head _))) (all1 (row_one (HS.get (.tail _ (.head _)))) (all1 (row_one (HS.get (.tail _ (.tail _ (.head _))))) (all1 rfl (all1 rfl (all1 rfl rfl)))))) (by kernel_rfl) rfl (by simp) rfl ?_
  clear HS
  intro w25 HS
  refine p_run _ (x_assign (.int .i64 41) rfl rfl) rfl ?_
  refine wpList_nil ?_
  refine hK22 _ _ ?_
  refine wp_ret ?_
  try simp only [Exit.inBlock, Exit.then]
  refine c_ret (.tuple [.agg ([vs, vb, vp, .bool R.counted, .int .i64 R.left, .bool R.down] : List Value).toArray, .int .i64 41].toArray) (r_ct rfl rfl (run_loadVar_aggn (by rfl) [vs, vb, vp, .bool R.counted, .int .i64 R.left, .bool R.down] 6 (by kernel_rfl) rfl (bkCells (HS.get (.head _)) 0 _ (whole _))) rfl) ?_
  have e1 : R.put i p = R := if_neg (by rw [ht]; decide)
  have e2 : R.putE i = 41 := if_neg (by rw [ht]; decide)
  rw [e1, e2]
  exact ⟨vp, rfl, (((((HS.drop.front 3 rfl).drop.front 3 rfl).drop.front 2 rfl).front 2 rfl).front 2 rfl)⟩
 ·rcases hacts : R.acts with _ | _
  ·have ha : R.actE = 42 := if_neg (by rw [hacts]; decide)
   refine c_enter Try.func21 rfl 35 rfl (.agg ([vs, vb, vp, .bool R.counted, .int .i64 R.left, .bool R.down] : List Value).toArray :: .int .i64 i :: .agg ((nums .u8 p)).toArray :: U32vrd3 ([])) rfl ?_
   refine wp_seq_k (fun K1 hK2 => ?_)
   refine c_region (fun ops4 hops3 => ?_)
   clear hops3
   refine St.wBox HS (cs := [vs, vb, vp, .bool R.counted, .int .i64 R.left, .bool R.down]) (.agg ([vs, vb, vp, .bool R.counted, .int .i64 R.left, .bool R.down] : List Value).toArray) rfl rfl ?_
   clear HS
   intro g5 w6 hg7 HS
   refine St.wBox HS (cs := ((nums .u8 p))) (.agg ((nums .u8 p)).toArray) rfl rfl ?_
   clear HS
   intro g8 w9 hg10 HS
   refine St.wAlloc HS (cs := [.slice none 0 0, .slice none 0 0, .slice none 0 0, .bool false, .int .i64 0, .bool false]) (.agg [.slice none 0 0, .slice none 0 0, .slice none 0 0, .bool false, .int .i64 0, .bool false].toArray) (by kernel_rfl) rfl ?_
   clear HS
   intro g11 w12 hg13 HS
   refine p_run _ (x_assign (.int .i64 0) rfl rfl) rfl ?_
   refine wpList_nil ?_
   refine hK2 _ _ ?_
   refine wp_seq_k (fun K14 hK15 => ?_)
   refine wp_seq_k (fun K16 hK17 => ?_)
   refine c_region (fun ops19 hops18 => ?_)
   clear hops18
   refine p_run _ (x_loads [vs, vb, vp, .bool R.counted, .int .i64 R.left, .bool R.down] 6 rfl rfl (bkCells (HS.get (.tail _ (.tail _ (.head _)))) 0 _ rfl) (by rfl) (by kernel_rfl) rfl) rfl ?_
   refine p_run _ (x_move (.int .i64 i) rfl rfl) rfl ?_
   refine w_call [.agg ([vs, vb, vp, .bool R.counted, .int .i64 R.left, .bool R.down] : List Value).toArray, .int .i64 i] Try.func40 (by kernel_rfl) (by rfl) rfl ?_
   replace HS := (((HS.front 5 rfl).front 5 rfl).front 5 rfl)
   refine (rkThere_any HS _).mono ?_
   clear HS
   rintro e w20 ⟨he_, HS⟩
   rw [ht] at he_
   subst he_
   refine ⟨_, rfl, ?_⟩
   refine p_run _ (x_not true rfl rfl) rfl ?_
   refine wpList_nil ?_
   refine fr_at (l' := (.agg ([vs, vb, vp, .bool R.counted, .int .i64 R.left, .bool R.down] : List Value).toArray :: .int .i64 i :: .agg ((nums .u8 p)).toArray :: .pointer (some ⟨g5, 0, none⟩) :: undef :: .pointer (some ⟨g8, 0, none⟩) :: .pointer (some ⟨g11, 0, none⟩) :: .int .i64 0 :: undef :: undef :: .agg ([vs, vb, vp, .bool R.counted, .int .i64 R.left, .bool R.down] : List Value).toArray :: .int .i64 i :: .bool true :: .bool false :: U16vrd3 (U4vrd3 (undef :: [])))) rfl ?_
   refine hK17 _ _ ?_
   refine c_false rfl ?_
   refine wp_skip ?_
   refine hK15 _ _ ?_
   refine wp_seq_k (fun K21 hK22 => ?_)
   refine c_region (fun ops24 hops23 => ?_)
   clear hops23
   refine p_run _ (x_loads [vs, vb, vp, .bool R.counted, .int .i64 R.left, .bool R.down] 6 rfl rfl (bkCells (HS.get (.tail _ (.tail _ (.tail _ (.tail _ (.tail _ (.head _))))))) 0 _ rfl) (by rfl) (by kernel_rfl) rfl) rfl ?_
   refine w_call [.agg ([vs, vb, vp, .bool R.counted, .int .i64 R.left, .bool R.down] : List Value).toArray] Try.func41 (by kernel_rfl) (by rfl) rfl ?_
   replace HS := (((HS.front 2 rfl).front 2 rfl).front 2 rfl)
   refine (rkAct_any HS hl).mono ?_
   clear HS
   rintro e w25 ⟨rfl, HS⟩
   refine ⟨_, rfl, ?_⟩
   refine p_run _ (x_move (.tuple [.agg ([vs, vb, vp, .bool R.act.counted, .int .i64 R.act.left, .bool R.act.down] : List Value).toArray, .int .i64 R.actE].toArray) rfl rfl) rfl ?_
   refine p_run _ (x_extract (vs := [.agg ([vs, vb, vp, .bool R.act.counted, .int .i64 R.act.left, .bool R.act.down] : List Value).toArray, .int .i64 R.actE]) 0 (.agg ([vs, vb, vp, .bool R.act.counted, .int .i64 R.act.left, .bool R.act.down] : List Value).toArray) rfl rfl rfl) rfl ?_
   refine p_run _ (x_extract (vs := [.agg ([vs, vb, vp, .bool R.act.counted, .int .i64 R.act.left, .bool R.act.down] : List Value).toArray, .int .i64 R.actE]) 1 (.int .i64 R.actE) rfl rfl rfl) rfl ?_
   refine St.stores (cs' := [vs, vb, vp, .bool R.act.counted, .int .i64 R.act.left, .bool R.act.down]) (HS.front 5 rfl) [vs, vb, vp, .bool R.act.counted, .int .i64 R.act.left, .bool R.act.down] 6 rfl rfl (all1 (row_one (HS.get (.head _))) (all1 (row_one (HS.get (.tail _ (.head _)))) (all1 (row_one (HS.get (.tail _ (.tail _ (.head _))))) (all1 rfl (all1 rfl (all1 rfl rfl)))))) (by kernel_rfl) rfl (by simp) rfl ?_
   clear HS
   intro w26 HS
   refine p_run _ (x_assign (.int .i64 R.actE) rfl rfl) rfl ?_
   refine wpList_nil ?_
   refine hK22 _ _ ?_
   refine wp_seq_k (fun K27 hK28 => ?_)
   refine wp_seq_k (fun K29 hK30 => ?_)
   refine c_region (fun ops32 hops31 => ?_)
   clear hops31
   refine p_run _ (x_move (.int .i64 R.actE) rfl rfl) rfl ?_
   refine p_run _ (x_cmp (k := .i64) (m := R.actE) (n := 0) .eql false rfl rfl rfl (by rw [ha]; rfl) rfl) rfl ?_
   refine wpList_nil ?_
   refine fr_at (l' := (.agg ([vs, vb, vp, .bool R.counted, .int .i64 R.left, .bool R.down] : List Value).toArray :: .int .i64 i :: .agg ((nums .u8 p)).toArray :: .pointer (some ⟨g5, 0, none⟩) :: undef :: .pointer (some ⟨g8, 0, none⟩) :: .pointer (some ⟨g11, 0, none⟩) :: .int .i64 0 :: .int .i64 R.actE :: undef :: .agg ([vs, vb, vp, .bool R.counted, .int .i64 R.left, .bool R.down] : List Value).toArray :: .int .i64 i :: .bool true :: .bool false :: undef :: .tuple [.agg ([vs, vb, vp, .bool R.act.counted, .int .i64 R.act.left, .bool R.act.down] : List Value).toArray, .int .i64 R.actE].toArray :: .agg ([vs, vb, vp, .bool R.counted, .int .i64 R.left, .bool R.down] : List Value).toArray :: .tuple [.agg ([vs, vb, vp, .bool R.act.counted, .int .i64 R.act.left, .bool R.act.down] : List Value).toArray, .int .i64 R.actE].toArray :: .agg ([vs, vb, vp, .bool R.act.counted, .int .i64 R.act.left, .bool R.act.down] : List Value).toArray :: .int .i64 R.actE :: .int .i64 R.actE :: .bool false :: U8vrd3 (U4vrd3 (undef :: [])))) rfl ?_
   refine hK30 _ _ ?_
   refine c_false rfl ?_
   refine wp_skip ?_
   refine hK28 _ _ ?_
   refine wp_seq_k (fun K33 hK34 => ?_)
   refine c_region (fun ops36 hops35 => ?_)
   clear hops35
   refine p_run _ (x_loads [vs, vb, vp, .bool R.act.counted, .int .i64 R.act.left, .bool R.act.down] 6 rfl rfl (bkCells (HS.get (.head _)) 0 _ rfl) (by rfl) (by kernel_rfl) rfl) rfl ?_
   refine p_run _ (x_move (.int .i64 R.actE) rfl rfl) rfl ?_
   refine St.stores (cs' := [vs, vb, vp, .bool R.act.counted, .int .i64 R.act.left, .bool R.act.down]) (HS.front 4 rfl) [vs, vb, vp, .bool R.act.counted, .int .i64 R.act.left, .bool R.act.down] 6 rfl rfl (all1 (row_one (HS.get (.tail _ (.head _)))) (all1 (row_one (HS.get (.tail _ (.tail _ (.head _))))) (all1 (row_one (HS.get (.tail _ (.tail _ (.tail _ (.head _)))))) (all1 rfl (all1 rfl (all1 rfl rfl)))))) (by kernel_rfl) rfl (by simp) rfl ?_
   clear HS
   intro w37 HS
   refine p_run _ (x_assign (.int .i64 R.actE) rfl rfl) rfl ?_
   refine wpList_nil ?_
   refine hK34 _ _ ?_
   refine wp_ret ?_
   try simp only [Exit.inBlock, Exit.then]
   refine c_ret (.tuple [.agg ([vs, vb, vp, .bool R.act.counted, .int .i64 R.act.left, .bool R.act.down] : List Value).toArray, .int .i64 R.actE].toArray) (r_ct rfl rfl (run_loadVar_aggn (by rfl) [vs, vb, vp, .bool R.act.counted, .int .i64 R.act.left, .bool R.act.down] 6 (by kernel_rfl) rfl (bkCells (HS.get (.head _)) 0 _ (whole _))) rfl) ?_
   have e1 : R.put i p = R.act := by unfold Rk.put; rw [if_pos ht, if_neg (by rw [hacts]; decide)]
   have e2 : R.putE i = R.actE := if_pos ht
   rw [e1, e2]
   exact ⟨vp, rfl, ((((HS.drop.drop.front 3 rfl).drop.front 2 rfl).front 2 rfl).front 2 rfl)⟩
  ·have ha : R.actE = 0 := if_pos hacts
   obtain ⟨Ap, cp, hvp, hcp, -⟩ := row_reads (HS.get (.tail _ (.tail _ (.head _))))
   subst hvp
   refine c_enter Try.func21 rfl 35 rfl (.agg ([vs, vb, .slice Ap R.pending.length cp, .bool R.counted, .int .i64 R.left, .bool R.down] : List Value).toArray :: .int .i64 i :: .agg ((nums .u8 p)).toArray :: U32vrd3 ([])) rfl ?_
   refine wp_seq_k (fun K1 hK2 => ?_)
   refine c_region (fun ops4 hops3 => ?_)
   clear hops3
   refine St.wBox HS (cs := [vs, vb, .slice Ap R.pending.length cp, .bool R.counted, .int .i64 R.left, .bool R.down]) (.agg ([vs, vb, .slice Ap R.pending.length cp, .bool R.counted, .int .i64 R.left, .bool R.down] : List Value).toArray) rfl rfl ?_
   clear HS
   intro g5 w6 hg7 HS
   refine St.wBox HS (cs := ((nums .u8 p))) (.agg ((nums .u8 p)).toArray) rfl rfl ?_
   clear HS
   intro g8 w9 hg10 HS
   refine St.wAlloc HS (cs := [.slice none 0 0, .slice none 0 0, .slice none 0 0, .bool false, .int .i64 0, .bool false]) (.agg [.slice none 0 0, .slice none 0 0, .slice none 0 0, .bool false, .int .i64 0, .bool false].toArray) (by kernel_rfl) rfl ?_
   clear HS
   intro g11 w12 hg13 HS
   refine p_run _ (x_assign (.int .i64 0) rfl rfl) rfl ?_
   refine wpList_nil ?_
   refine hK2 _ _ ?_
   refine wp_seq_k (fun K14 hK15 => ?_)
   refine wp_seq_k (fun K16 hK17 => ?_)
   refine c_region (fun ops19 hops18 => ?_)
   clear hops18
   refine p_run _ (x_loads [vs, vb, .slice Ap R.pending.length cp, .bool R.counted, .int .i64 R.left, .bool R.down] 6 rfl rfl (bkCells (HS.get (.tail _ (.tail _ (.head _)))) 0 _ rfl) (by rfl) (by kernel_rfl) rfl) rfl ?_
   refine p_run _ (x_move (.int .i64 i) rfl rfl) rfl ?_
   refine w_call [.agg ([vs, vb, .slice Ap R.pending.length cp, .bool R.counted, .int .i64 R.left, .bool R.down] : List Value).toArray, .int .i64 i] Try.func40 (by kernel_rfl) (by rfl) rfl ?_
   replace HS := (((HS.front 5 rfl).front 5 rfl).front 5 rfl)
   refine (rkThere_any HS _).mono ?_
   clear HS
   rintro e w20 ⟨he_, HS⟩
   rw [ht] at he_
   subst he_
   refine ⟨_, rfl, ?_⟩
   refine p_run _ (x_not true rfl rfl) rfl ?_
   refine wpList_nil ?_
   refine fr_at (l' := (.agg ([vs, vb, .slice Ap R.pending.length cp, .bool R.counted, .int .i64 R.left, .bool R.down] : List Value).toArray :: .int .i64 i :: .agg ((nums .u8 p)).toArray :: .pointer (some ⟨g5, 0, none⟩) :: undef :: .pointer (some ⟨g8, 0, none⟩) :: .pointer (some ⟨g11, 0, none⟩) :: .int .i64 0 :: undef :: undef :: .agg ([vs, vb, .slice Ap R.pending.length cp, .bool R.counted, .int .i64 R.left, .bool R.down] : List Value).toArray :: .int .i64 i :: .bool true :: .bool false :: U16vrd3 (U4vrd3 (undef :: [])))) rfl ?_
   refine hK17 _ _ ?_
   refine c_false rfl ?_
   refine wp_skip ?_
   refine hK15 _ _ ?_
   refine wp_seq_k (fun K21 hK22 => ?_)
   refine c_region (fun ops24 hops23 => ?_)
   clear hops23
   refine p_run _ (x_loads [vs, vb, .slice Ap R.pending.length cp, .bool R.counted, .int .i64 R.left, .bool R.down] 6 rfl rfl (bkCells (HS.get (.tail _ (.tail _ (.tail _ (.tail _ (.tail _ (.head _))))))) 0 _ rfl) (by rfl) (by kernel_rfl) rfl) rfl ?_
   refine w_call [.agg ([vs, vb, .slice Ap R.pending.length cp, .bool R.counted, .int .i64 R.left, .bool R.down] : List Value).toArray] Try.func41 (by kernel_rfl) (by rfl) rfl ?_
   replace HS := (((HS.front 2 rfl).front 2 rfl).front 2 rfl)
   refine (rkAct_any HS hl).mono ?_
   clear HS
   rintro e w25 ⟨rfl, HS⟩
   refine ⟨_, rfl, ?_⟩
   refine p_run _ (x_move (.tuple [.agg ([vs, vb, .slice Ap R.pending.length cp, .bool R.act.counted, .int .i64 R.act.left, .bool R.act.down] : List Value).toArray, .int .i64 R.actE].toArray) rfl rfl) rfl ?_
   refine p_run _ (x_extract (vs := [.agg ([vs, vb, .slice Ap R.pending.length cp, .bool R.act.counted, .int .i64 R.act.left, .bool R.act.down] : List Value).toArray, .int .i64 R.actE]) 0 (.agg ([vs, vb, .slice Ap R.pending.length cp, .bool R.act.counted, .int .i64 R.act.left, .bool R.act.down] : List Value).toArray) rfl rfl rfl) rfl ?_
   refine p_run _ (x_extract (vs := [.agg ([vs, vb, .slice Ap R.pending.length cp, .bool R.act.counted, .int .i64 R.act.left, .bool R.act.down] : List Value).toArray, .int .i64 R.actE]) 1 (.int .i64 R.actE) rfl rfl rfl) rfl ?_
   refine St.stores (cs' := [vs, vb, .slice Ap R.pending.length cp, .bool R.act.counted, .int .i64 R.act.left, .bool R.act.down]) (HS.front 5 rfl) [vs, vb, .slice Ap R.pending.length cp, .bool R.act.counted, .int .i64 R.act.left, .bool R.act.down] 6 rfl rfl (all1 (row_one (HS.get (.head _))) (all1 (row_one (HS.get (.tail _ (.head _)))) (all1 rfl (all1 rfl (all1 rfl (all1 rfl rfl)))))) (by kernel_rfl) rfl (by simp) rfl ?_
   clear HS
   intro w26 HS
   refine p_run _ (x_assign (.int .i64 R.actE) rfl rfl) rfl ?_
   refine wpList_nil ?_
   refine hK22 _ _ ?_
   refine wp_seq_k (fun K27 hK28 => ?_)
   refine wp_seq_k (fun K29 hK30 => ?_)
   refine c_region (fun ops32 hops31 => ?_)
   clear hops31
   refine p_run _ (x_move (.int .i64 R.actE) rfl rfl) rfl ?_
   refine p_run _ (x_cmp (k := .i64) (m := R.actE) (n := 0) .eql true rfl rfl rfl (by rw [ha]; rfl) rfl) rfl ?_
   refine wpList_nil ?_
   refine fr_at (l' := (.agg ([vs, vb, .slice Ap R.pending.length cp, .bool R.counted, .int .i64 R.left, .bool R.down] : List Value).toArray :: .int .i64 i :: .agg ((nums .u8 p)).toArray :: .pointer (some ⟨g5, 0, none⟩) :: undef :: .pointer (some ⟨g8, 0, none⟩) :: .pointer (some ⟨g11, 0, none⟩) :: .int .i64 0 :: .int .i64 R.actE :: undef :: .agg ([vs, vb, .slice Ap R.pending.length cp, .bool R.counted, .int .i64 R.left, .bool R.down] : List Value).toArray :: .int .i64 i :: .bool true :: .bool false :: undef :: .tuple [.agg ([vs, vb, .slice Ap R.pending.length cp, .bool R.act.counted, .int .i64 R.act.left, .bool R.act.down] : List Value).toArray, .int .i64 R.actE].toArray :: .agg ([vs, vb, .slice Ap R.pending.length cp, .bool R.counted, .int .i64 R.left, .bool R.down] : List Value).toArray :: .tuple [.agg ([vs, vb, .slice Ap R.pending.length cp, .bool R.act.counted, .int .i64 R.act.left, .bool R.act.down] : List Value).toArray, .int .i64 R.actE].toArray :: .agg ([vs, vb, .slice Ap R.pending.length cp, .bool R.act.counted, .int .i64 R.act.left, .bool R.act.down] : List Value).toArray :: .int .i64 R.actE :: .int .i64 R.actE :: .bool true :: U8vrd3 (U4vrd3 (undef :: [])))) rfl ?_
   refine hK30 _ _ ?_
   refine c_true rfl ?_
   refine wp_seq_k (fun K33 hK34 => ?_)
   refine c_region (fun ops36 hops35 => ?_)
   clear hops35
   refine St.wLit0 HS kWr rfl 257 (.agg (Value.int .i64 0 :: (nums .u8 zpg)).toArray) Try.underlying51 (by kernel_rfl) ?_
   clear HS
   intro v37 w38 HS
   refine p_run _ (x_field (j := 2) _ _ rfl rfl Try.underlying53 rfl (by rfl) rfl) rfl ?_
   refine p_run _ (x_load (.slice Ap R.pending.length cp) rfl rfl (bkCell (HS.get (.tail _ (.head _))) 2 _ rfl) (by rfl)) rfl ?_
   refine St.wAppend HS ((.agg (.int .i64 0 :: nums .u8 zpg).toArray)) 264 Try.underlying51 (by kernel_rfl) (by kernel_rfl) (by decide) (by decide) R.act.pending _ _ _ rfl rfl (by have h := row_C (HS.get (.tail _ (.tail _ (.tail _ (.tail _ (.head _)))))); rw [h.1]; exact h.2.2) (fun _ _ h => h) (by simp; omega) ?_
   clear HS
   intro v39 w40 HS
   refine p_run _ (x_assign (v39) rfl rfl) rfl ?_
   refine wpList_nil ?_
   refine hK34 _ _ ?_
   refine c_region (fun ops42 hops41 => ?_)
   clear hops41
   refine p_run _ (x_move (v39) rfl rfl) rfl ?_
   refine p_run _ (x_move (.int .i64 i) rfl rfl) rfl ?_
   refine p_run _ (x_loads ((nums .u8 p)) 256 rfl rfl (bkCells (HS.get (.tail _ (.tail _ (.tail _ (.tail _ (.tail _ (.tail _ (.head _)))))))) 0 _ (whole _)) (by rfl) (by kernel_rfl) (by simp [hp, nums_length])) rfl ?_
   refine p_run (l' := (.agg ([vs, vb, .slice Ap R.pending.length cp, .bool R.counted, .int .i64 R.left, .bool R.down] : List Value).toArray :: .int .i64 i :: .agg ((nums .u8 p)).toArray :: .pointer (some ⟨g5, 0, none⟩) :: undef :: .pointer (some ⟨g8, 0, none⟩) :: .pointer (some ⟨g11, 0, none⟩) :: .int .i64 0 :: .int .i64 R.actE :: v39 :: .agg ([vs, vb, .slice Ap R.pending.length cp, .bool R.counted, .int .i64 R.left, .bool R.down] : List Value).toArray :: .int .i64 i :: .bool true :: .bool false :: undef :: .tuple [.agg ([vs, vb, .slice Ap R.pending.length cp, .bool R.act.counted, .int .i64 R.act.left, .bool R.act.down] : List Value).toArray, .int .i64 R.actE].toArray :: .agg ([vs, vb, .slice Ap R.pending.length cp, .bool R.counted, .int .i64 R.left, .bool R.down] : List Value).toArray :: .tuple [.agg ([vs, vb, .slice Ap R.pending.length cp, .bool R.act.counted, .int .i64 R.act.left, .bool R.act.down] : List Value).toArray, .int .i64 R.actE].toArray :: .agg ([vs, vb, .slice Ap R.pending.length cp, .bool R.act.counted, .int .i64 R.act.left, .bool R.act.down] : List Value).toArray :: .int .i64 R.actE :: .int .i64 R.actE :: .bool true :: v37 :: .pointer (some ⟨g5, 2, none⟩) :: .slice Ap R.pending.length cp :: v39 :: v39 :: .int .i64 i :: .agg ((nums .u8 p)).toArray :: .agg (Value.int .i64 i :: (nums .u8 p)).toArray :: U4vrd3 (undef :: []))) _ (x_builds [(0, .int .i64 i), (1, .agg ((nums .u8 p)).toArray)] _ (Value.int .i64 0 :: (nums .u8 zpg)) [(0, 1), (1, 256)] (Value.int .i64 i :: (nums .u8 p)) rfl rfl Try.underlying87 (by kernel_rfl) (by kernel_rfl) ((fill_cons (off := 0) (n := 1) (us := [.int .i64 i]) rfl rfl rfl (by simp [lay, hp, nums_length, zlen])).trans ((fill_cons (off := 1) (n := 256) (us := ((nums .u8 p))) rfl rfl (by simp [hp, nums_length]) (by simp [lay, hp, nums_length, zlen])).trans (congrArg (fun c => some (List.toArray c)) (by simp [lay, hp, nums_length, zlen]))))) rfl ?_
   refine St.wLit1 HS (Value.int .i64 i :: (nums .u8 p)) 257 (.agg (Value.int .i64 0 :: (nums .u8 zpg)).toArray) (.agg (Value.int .i64 i :: (nums .u8 p)).toArray) Try.underlying51 (by kernel_rfl) (by decide) rfl rfl (by simp [hp, nums_length]) ?_
   clear HS
   intro g43 w44 hg45 HS
   replace HS := (HS.front 1 rfl)
   refine St.wAppend HS ((.agg (.int .i64 0 :: nums .u8 zpg).toArray)) 264 Try.underlying51 (by kernel_rfl) (by kernel_rfl) (by decide) (by decide) [(i, p)] _ _ _ rfl rfl (lit_reads (HS.get (.tail _ (.head _))) ((Reps.none _ _).snoc (p := (i, p)) ⟨rfl, hp⟩ (by simp [kWr, flatK, nums_length, hp])) (by simp)) (fun _ _ h => h) (by simp [rk_pend]; omega) ?_
   clear HS
   intro v46 w47 HS
   refine p_run _ (x_field (j := 2) _ _ rfl rfl Try.underlying53 rfl (by rfl) rfl) rfl ?_
   refine St.store (cs' := [vs, vb, v46, .bool R.act.counted, .int .i64 R.act.left, .bool R.act.down]) (HS.front 2 rfl) (v46) rfl rfl (row_one (HS.get (.head _))) (by kernel_rfl) (by rfl) rfl ?_
   clear HS
   intro w48 HS
   refine wpList_nil ?_
   refine hK28 _ _ ?_
   refine wp_seq_k (fun K49 hK50 => ?_)
   refine c_region (fun ops52 hops51 => ?_)
   clear hops51
   refine p_run _ (x_loads [vs, vb, v46, .bool R.act.counted, .int .i64 R.act.left, .bool R.act.down] 6 rfl rfl (bkCells (HS.get (.head _)) 0 _ rfl) (by rfl) (by kernel_rfl) rfl) rfl ?_
   refine p_run _ (x_move (.int .i64 R.actE) rfl rfl) rfl ?_
   refine St.stores (cs' := [vs, vb, v46, .bool R.act.counted, .int .i64 R.act.left, .bool R.act.down]) (HS.front 6 rfl) [vs, vb, v46, .bool R.act.counted, .int .i64 R.act.left, .bool R.act.down] 6 rfl rfl (all1 (row_one (HS.get (.tail _ (.tail _ (.tail _ (.head _)))))) (all1 (row_one (HS.get (.tail _ (.tail _ (.tail _ (.tail _ (.head _))))))) (all1 (row_one (HS.get (.tail _ (.head _)))) (all1 rfl (all1 rfl (all1 rfl rfl)))))) (by kernel_rfl) rfl (by simp) rfl ?_
   clear HS
   intro w53 HS
   refine p_run _ (x_assign (.int .i64 R.actE) rfl rfl) rfl ?_
   refine wpList_nil ?_
   refine hK50 _ _ ?_
   refine wp_ret ?_
   try simp only [Exit.inBlock, Exit.then]
   refine c_ret (.tuple [.agg ([vs, vb, v46, .bool R.act.counted, .int .i64 R.act.left, .bool R.act.down] : List Value).toArray, .int .i64 R.actE].toArray) (r_ct rfl rfl (run_loadVar_aggn (by rfl) [vs, vb, v46, .bool R.act.counted, .int .i64 R.act.left, .bool R.act.down] 6 (by kernel_rfl) rfl (bkCells (HS.get (.head _)) 0 _ (whole _))) rfl) ?_
   have e1 : R.put i p = { R.act with pending := [] ++ R.act.pending ++ [(i, p)] } := by unfold Rk.put; rw [if_pos ht, if_pos hacts, List.nil_append]
   have e2 : R.putE i = R.actE := if_pos ht
   rw [e1, e2]
   exact ⟨_, rfl, (((((HS.drop.drop.front 1 rfl).drop.front 3 rfl).drop.front 3 rfl).drop.front 2 rfl).front 2 rfl)⟩
end
end Go.Proofs.Ytenlkobjldhfgaa
