/- The document's disk: There, act, Cut, Spoil, Put. -/
import Derived.Test.YtjholgfaipfmbaaL4b
import Derived.Test.YtjholgfaipfmbaaWkB
set_option linter.unusedVariables false
set_option linter.unusedSimpArgs false
namespace Go.Proofs.Ytjholgfaipfmbaa
open Go.RowKit Go.Proofs.YtjholgfaipfmbaaW.PrintWords Go.Proofs.YtjholgfaipfmbaaW.PrintLast
structure Rk where
  stable : List (List Int)
  bad : List Bool
  pending : List (Int × List Int)
  counted : Bool
  left : Int
  down : Bool
abbrev rkV (vs vb vp : Value) (R : Rk) : Value := .agg #[vs, vb, vp, .bool R.counted, .int .i64 R.left, .bool R.down]
abbrev rk (vs vb vp : Value) (R : Rk) (L : List Res) : List Res := row kPg rfl 31 vs R.stable :: row Kd.bool rfl 4 vb R.bad :: row kWr rfl 74 vp R.pending :: L
section
variable {w0 W : World} {F : Nat → Prop} {L : List Res} {vs vb vp : Value} {R : Rk}
def Rk.there (R : Rk) (i : Int) : Bool := decide (0 ≤ i ∧ i < (R.stable.length : Int))
def Rk.acts (R : Rk) : Bool := !R.down && !(R.counted && decide (R.left = 0))
def Rk.act (R : Rk) : Rk := if R.acts = true then { R with left := if R.counted = true then R.left - 1 else R.left } else { R with down := true }
def Rk.actE (R : Rk) : Int := if R.acts = true then 0 else 42

set_option maxRecDepth 10000 in
theorem rkThere_any (HS : St w0 F W (rk vs vb vp R L)) (i : Int) : Calls Try.prog 35 #[.agg ([vs, vb, vp, .bool R.counted, .int .i64 R.left, .bool R.down] : List Value).toArray, .int .i64 i] W fun e w' => e = .returned (.bool (R.there i)) ∧ St w0 F w' (rk vs vb vp R L) := by
  obtain ⟨As, cs, hvs, hcs, -⟩ := row_reads (HS.get (.head _))
  subst hvs
  by_cases h00 : 0 ≤ i
  · skip
    have h0 : decide (i ≥ 0) = true := decide_eq_true h00
    by_cases h11 : i < (R.stable.length : Int)
    · skip
      have h1 := decide_eq_true h11
      refine c_enter Try.func35 rfl 14 rfl [.agg ([.slice As R.stable.length cs, vb, vp, .bool R.counted, .int .i64 R.left, .bool R.down] : List Value).toArray, .int .i64 i, undef, undef, undef, undef, undef, undef, undef, undef, undef, undef, undef, undef] rfl ?_
      refine wp_seq_k (fun K1 hK2 => ?_)
      refine c_region (fun ops4 hops3 => ?_)
      clear hops3
      refine St.wBox HS (cs := [.slice As R.stable.length cs, vb, vp, .bool R.counted, .int .i64 R.left, .bool R.down]) (.agg ([.slice As R.stable.length cs, vb, vp, .bool R.counted, .int .i64 R.left, .bool R.down] : List Value).toArray) rfl rfl ?_
      clear HS
      intro g5 w6 hg7 HS
      refine p_run (l' := _) _ (x_assign (.bool false) rfl rfl) rfl ?_
      refine wpList_nil ?_
      refine fr_at (l' := [.agg ([.slice As R.stable.length cs, vb, vp, .bool R.counted, .int .i64 R.left, .bool R.down] : List Value).toArray, .int .i64 i, .pointer (some ⟨g5, 0, none⟩), undef, .bool false, undef, undef, undef, undef, undef, undef, undef, undef, undef]) rfl ?_
      refine hK2 _ _ ?_
      refine wp_seq_k (fun K8 hK9 => ?_)
      refine c_region (fun ops11 hops10 => ?_)
      refine p_run (l' := _) _ (x_move (.int .i64 i) rfl rfl) rfl ?_
      refine p_run (l' := _) _ (x_cmp (k := .i64) (m := i) (n := 0) .geq true rfl rfl rfl h0 rfl) rfl ?_
      refine p_run (l' := _) _ (x_move (.bool true) rfl rfl) rfl ?_
      refine p_on rfl (by rw [hops10]; rfl) ?_
      refine p_run (l' := [.agg ([.slice As R.stable.length cs, vb, vp, .bool R.counted, .int .i64 R.left, .bool R.down] : List Value).toArray, .int .i64 i, .pointer (some ⟨g5, 0, none⟩), undef, .bool false, .int .i64 i, .bool true, .bool true, .int .i64 i, undef, undef, undef, undef, undef]) _ (x_move (.int .i64 i) rfl rfl) rfl ?_
      refine p_on rfl (by rw [hops10]; rfl) ?_
      refine p_run (l' := _) _ (x_field (j := 0) _ _ rfl rfl Try.underlying51 rfl (by rfl) rfl) rfl ?_
      refine p_on rfl (by rw [hops10]; rfl) ?_
      refine p_run (l' := _) _ (x_load (.slice As R.stable.length cs) rfl rfl (bkCell (HS.get (.head _)) 0 _ rfl) (by rfl)) rfl ?_
      refine p_on rfl (by rw [hops10]; rfl) ?_
      refine p_run (l' := _) _ (x_len rfl rfl Try.underlying48) rfl ?_
      refine p_on rfl (by rw [hops10]; rfl) ?_
      refine p_run (l' := [.agg ([.slice As R.stable.length cs, vb, vp, .bool R.counted, .int .i64 R.left, .bool R.down] : List Value).toArray, .int .i64 i, .pointer (some ⟨g5, 0, none⟩), undef, .bool false, .int .i64 i, .bool true, .bool true, .int .i64 i, .pointer (some ⟨g5, 0, none⟩), .slice As R.stable.length cs, .int .i64 (R.stable.length : Int), .bool true, undef]) _ (x_cmp (k := .i64) (m := i) (n := (R.stable.length : Int)) .lss true rfl rfl rfl h1 rfl) rfl ?_
      refine p_run (l' := _) _ (x_pick true (.bool true) (.bool false) (.bool true) rfl rfl rfl rfl rfl) rfl ?_
      refine p_run (l' := _) _ (x_assign (.bool true) rfl rfl) rfl ?_
      clear hops10
      refine wpList_nil ?_
      refine fr_at (l' := [.agg ([.slice As R.stable.length cs, vb, vp, .bool R.counted, .int .i64 R.left, .bool R.down] : List Value).toArray, .int .i64 i, .pointer (some ⟨g5, 0, none⟩), undef, .bool true, .int .i64 i, .bool true, .bool true, .int .i64 i, .pointer (some ⟨g5, 0, none⟩), .slice As R.stable.length cs, .int .i64 (R.stable.length : Int), .bool true, .bool true]) rfl ?_
      refine hK9 _ _ ?_
      refine wp_ret ?_
      try simp only [Exit.inBlock, Exit.then]
      refine c_ret (.bool true) (r_tmp rfl rfl) ?_
      rw [show R.there i = true from decide_eq_true ⟨h00, h11⟩]
      exact ⟨rfl, (((HS.drop.front 2 rfl).front 2 rfl).front 2 rfl)⟩
    · skip
      have h1 := decide_eq_false h11
      refine c_enter Try.func35 rfl 14 rfl [.agg ([.slice As R.stable.length cs, vb, vp, .bool R.counted, .int .i64 R.left, .bool R.down] : List Value).toArray, .int .i64 i, undef, undef, undef, undef, undef, undef, undef, undef, undef, undef, undef, undef] rfl ?_
      refine wp_seq_k (fun K1 hK2 => ?_)
      refine c_region (fun ops4 hops3 => ?_)
      clear hops3
      refine St.wBox HS (cs := [.slice As R.stable.length cs, vb, vp, .bool R.counted, .int .i64 R.left, .bool R.down]) (.agg ([.slice As R.stable.length cs, vb, vp, .bool R.counted, .int .i64 R.left, .bool R.down] : List Value).toArray) rfl rfl ?_
      clear HS
      intro g5 w6 hg7 HS
      refine p_run (l' := _) _ (x_assign (.bool false) rfl rfl) rfl ?_
      refine wpList_nil ?_
      refine fr_at (l' := [.agg ([.slice As R.stable.length cs, vb, vp, .bool R.counted, .int .i64 R.left, .bool R.down] : List Value).toArray, .int .i64 i, .pointer (some ⟨g5, 0, none⟩), undef, .bool false, undef, undef, undef, undef, undef, undef, undef, undef, undef]) rfl ?_
      refine hK2 _ _ ?_
      refine wp_seq_k (fun K8 hK9 => ?_)
      refine c_region (fun ops11 hops10 => ?_)
      refine p_run (l' := _) _ (x_move (.int .i64 i) rfl rfl) rfl ?_
      refine p_run (l' := _) _ (x_cmp (k := .i64) (m := i) (n := 0) .geq true rfl rfl rfl h0 rfl) rfl ?_
      refine p_run (l' := _) _ (x_move (.bool true) rfl rfl) rfl ?_
      refine p_on rfl (by rw [hops10]; rfl) ?_
      refine p_run (l' := [.agg ([.slice As R.stable.length cs, vb, vp, .bool R.counted, .int .i64 R.left, .bool R.down] : List Value).toArray, .int .i64 i, .pointer (some ⟨g5, 0, none⟩), undef, .bool false, .int .i64 i, .bool true, .bool true, .int .i64 i, undef, undef, undef, undef, undef]) _ (x_move (.int .i64 i) rfl rfl) rfl ?_
      refine p_on rfl (by rw [hops10]; rfl) ?_
      refine p_run (l' := _) _ (x_field (j := 0) _ _ rfl rfl Try.underlying51 rfl (by rfl) rfl) rfl ?_
      refine p_on rfl (by rw [hops10]; rfl) ?_
      refine p_run (l' := _) _ (x_load (.slice As R.stable.length cs) rfl rfl (bkCell (HS.get (.head _)) 0 _ rfl) (by rfl)) rfl ?_
      refine p_on rfl (by rw [hops10]; rfl) ?_
      refine p_run (l' := _) _ (x_len rfl rfl Try.underlying48) rfl ?_
      refine p_on rfl (by rw [hops10]; rfl) ?_
      refine p_run (l' := [.agg ([.slice As R.stable.length cs, vb, vp, .bool R.counted, .int .i64 R.left, .bool R.down] : List Value).toArray, .int .i64 i, .pointer (some ⟨g5, 0, none⟩), undef, .bool false, .int .i64 i, .bool true, .bool true, .int .i64 i, .pointer (some ⟨g5, 0, none⟩), .slice As R.stable.length cs, .int .i64 (R.stable.length : Int), .bool false, undef]) _ (x_cmp (k := .i64) (m := i) (n := (R.stable.length : Int)) .lss false rfl rfl rfl h1 rfl) rfl ?_
      refine p_run (l' := _) _ (x_pick true (.bool false) (.bool false) (.bool false) rfl rfl rfl rfl rfl) rfl ?_
      refine p_run (l' := _) _ (x_assign (.bool false) rfl rfl) rfl ?_
      clear hops10
      refine wpList_nil ?_
      refine fr_at (l' := [.agg ([.slice As R.stable.length cs, vb, vp, .bool R.counted, .int .i64 R.left, .bool R.down] : List Value).toArray, .int .i64 i, .pointer (some ⟨g5, 0, none⟩), undef, .bool false, .int .i64 i, .bool true, .bool true, .int .i64 i, .pointer (some ⟨g5, 0, none⟩), .slice As R.stable.length cs, .int .i64 (R.stable.length : Int), .bool false, .bool false]) rfl ?_
      refine hK9 _ _ ?_
      refine wp_ret ?_
      try simp only [Exit.inBlock, Exit.then]
      refine c_ret (.bool false) (r_tmp rfl rfl) ?_
      rw [show R.there i = false from decide_eq_false (fun h => h11 h.2)]
      exact ⟨rfl, (((HS.drop.front 2 rfl).front 2 rfl).front 2 rfl)⟩
  · skip
    have h0 : decide (i ≥ 0) = false := decide_eq_false h00
    refine c_enter Try.func35 rfl 14 rfl [.agg ([.slice As R.stable.length cs, vb, vp, .bool R.counted, .int .i64 R.left, .bool R.down] : List Value).toArray, .int .i64 i, undef, undef, undef, undef, undef, undef, undef, undef, undef, undef, undef, undef] rfl ?_
    refine wp_seq_k (fun K1 hK2 => ?_)
    refine c_region (fun ops4 hops3 => ?_)
    clear hops3
    refine St.wBox HS (cs := [.slice As R.stable.length cs, vb, vp, .bool R.counted, .int .i64 R.left, .bool R.down]) (.agg ([.slice As R.stable.length cs, vb, vp, .bool R.counted, .int .i64 R.left, .bool R.down] : List Value).toArray) rfl rfl ?_
    clear HS
    intro g5 w6 hg7 HS
    refine p_run (l' := _) _ (x_assign (.bool false) rfl rfl) rfl ?_
    refine wpList_nil ?_
    refine fr_at (l' := [.agg ([.slice As R.stable.length cs, vb, vp, .bool R.counted, .int .i64 R.left, .bool R.down] : List Value).toArray, .int .i64 i, .pointer (some ⟨g5, 0, none⟩), undef, .bool false, undef, undef, undef, undef, undef, undef, undef, undef, undef]) rfl ?_
    refine hK2 _ _ ?_
    refine wp_seq_k (fun K8 hK9 => ?_)
    refine c_region (fun ops11 hops10 => ?_)
    refine p_run (l' := _) _ (x_move (.int .i64 i) rfl rfl) rfl ?_
    refine p_run (l' := _) _ (x_cmp (k := .i64) (m := i) (n := 0) .geq false rfl rfl rfl h0 rfl) rfl ?_
    refine p_run (l' := _) _ (x_move (.bool false) rfl rfl) rfl ?_
    refine p_off (l' := [.agg ([.slice As R.stable.length cs, vb, vp, .bool R.counted, .int .i64 R.left, .bool R.down] : List Value).toArray, .int .i64 i, .pointer (some ⟨g5, 0, none⟩), undef, .bool false, .int .i64 i, .bool false, .bool false, undef, undef, undef, undef, undef, undef]) (by rw [hops10]; rfl) rfl ?_
    refine p_off (l' := _) (by rw [hops10]; rfl) rfl ?_
    refine p_off (l' := _) (by rw [hops10]; rfl) rfl ?_
    refine p_off (l' := _) (by rw [hops10]; rfl) rfl ?_
    refine p_off (l' := [.agg ([.slice As R.stable.length cs, vb, vp, .bool R.counted, .int .i64 R.left, .bool R.down] : List Value).toArray, .int .i64 i, .pointer (some ⟨g5, 0, none⟩), undef, .bool false, .int .i64 i, .bool false, .bool false, undef, undef, undef, undef, undef, undef]) (by rw [hops10]; rfl) rfl ?_
    refine p_run (l' := _) _ (x_pick false (undef) (.bool false) (.bool false) rfl rfl rfl rfl rfl) rfl ?_
    refine p_run (l' := _) _ (x_assign (.bool false) rfl rfl) rfl ?_
    clear hops10
    refine wpList_nil ?_
    refine fr_at (l' := [.agg ([.slice As R.stable.length cs, vb, vp, .bool R.counted, .int .i64 R.left, .bool R.down] : List Value).toArray, .int .i64 i, .pointer (some ⟨g5, 0, none⟩), undef, .bool false, .int .i64 i, .bool false, .bool false, undef, undef, undef, undef, undef, .bool false]) rfl ?_
    refine hK9 _ _ ?_
    refine wp_ret ?_
    try simp only [Exit.inBlock, Exit.then]
    refine c_ret (.bool false) (r_tmp rfl rfl) ?_
    rw [show R.there i = false from decide_eq_false (fun h => h00 h.1)]
    exact ⟨rfl, (((HS.drop.front 2 rfl).front 2 rfl).front 2 rfl)⟩

set_option maxRecDepth 10000 in
theorem rkAct_any (HS : St w0 F W (rk vs vb vp R L)) (hl : R.counted = true → 0 ≤ R.left ∧ R.left < 9223372036854775808) : Calls Try.prog 36 #[.agg ([vs, vb, vp, .bool R.counted, .int .i64 R.left, .bool R.down] : List Value).toArray] W fun e w' => e = .returned (.tuple #[rkV vs vb vp R.act, .int .i64 R.actE]) ∧ St w0 F w' (rk vs vb vp R.act L) := by
  rcases hd : R.down with _ | _
  · skip
    rcases hc : R.counted with _ | _
    · skip
      have hz : True := trivial
      refine c_enter Try.func36 rfl 24 rfl [.agg ([vs, vb, vp, .bool false, .int .i64 R.left, .bool false] : List Value).toArray, undef, undef, undef, undef, undef, undef, undef, undef, undef, undef, undef, undef, undef, undef, undef, undef, undef, undef, undef, undef, undef, undef, undef] rfl ?_
      refine wp_seq_k (fun K1 hK2 => ?_)
      refine c_region (fun ops4 hops3 => ?_)
      clear hops3
      refine St.wBox HS (cs := [vs, vb, vp, .bool false, .int .i64 R.left, .bool false]) (.agg ([vs, vb, vp, .bool false, .int .i64 R.left, .bool false] : List Value).toArray) rfl rfl ?_
      clear HS
      intro g5 w6 hg7 HS
      refine St.wAlloc HS (cs := [.slice none 0 0, .slice none 0 0, .slice none 0 0, .bool false, .int .i64 0, .bool false]) (.agg [.slice none 0 0, .slice none 0 0, .slice none 0 0, .bool false, .int .i64 0, .bool false].toArray) (by kernel_rfl) rfl ?_
      clear HS
      intro g8 w9 hg10 HS
      refine p_run (l' := _) _ (x_assign (.int .i64 0) rfl rfl) rfl ?_
      refine wpList_nil ?_
      refine fr_at (l' := [.agg ([vs, vb, vp, .bool false, .int .i64 R.left, .bool false] : List Value).toArray, .pointer (some ⟨g5, 0, none⟩), .pointer (some ⟨g8, 0, none⟩), .int .i64 0, undef, undef, undef, undef, undef, undef, undef, undef, undef, undef, undef, undef, undef, undef, undef, undef, undef, undef, undef, undef]) rfl ?_
      refine hK2 _ _ ?_
      refine wp_seq_k (fun K11 hK12 => ?_)
      refine wp_seq_k (fun K13 hK14 => ?_)
      refine c_region (fun ops16 hops15 => ?_)
      refine p_run (l' := _) _ (x_field (j := 5) _ _ rfl rfl Try.underlying51 rfl (by rfl) rfl) rfl ?_
      refine p_run (l' := _) _ (x_load (.bool false) rfl rfl (bkCell (HS.get (.tail _ (.head _))) 5 _ rfl) (by rfl)) rfl ?_
      refine p_run (l' := _) _ (x_move (.bool false) rfl rfl) rfl ?_
      refine p_on rfl (by rw [hops15]; rfl) ?_
      refine p_run (l' := [.agg ([vs, vb, vp, .bool false, .int .i64 R.left, .bool false] : List Value).toArray, .pointer (some ⟨g5, 0, none⟩), .pointer (some ⟨g8, 0, none⟩), .int .i64 0, .pointer (some ⟨g5, 5, none⟩), .bool false, .bool false, .pointer (some ⟨g5, 3, none⟩), undef, undef, undef, undef, undef, undef, undef, undef, undef, undef, undef, undef, undef, undef, undef, undef]) _ (x_field (j := 3) _ _ rfl rfl Try.underlying51 rfl (by rfl) rfl) rfl ?_
      refine p_on rfl (by rw [hops15]; rfl) ?_
      refine p_run (l' := _) _ (x_load (.bool false) rfl rfl (bkCell (HS.get (.tail _ (.head _))) 3 _ rfl) (by rfl)) rfl ?_
      refine p_on rfl (by rw [hops15]; rfl) ?_
      refine p_run (l' := _) _ (x_move (.bool false) rfl rfl) rfl ?_
      refine p_off (l' := _) (by rw [hops15]; rfl) rfl ?_
      refine p_off (l' := [.agg ([vs, vb, vp, .bool false, .int .i64 R.left, .bool false] : List Value).toArray, .pointer (some ⟨g5, 0, none⟩), .pointer (some ⟨g8, 0, none⟩), .int .i64 0, .pointer (some ⟨g5, 5, none⟩), .bool false, .bool false, .pointer (some ⟨g5, 3, none⟩), .bool false, .bool false, undef, undef, undef, undef, undef, undef, undef, undef, undef, undef, undef, undef, undef, undef]) (by rw [hops15]; rfl) rfl ?_
      refine p_off (l' := _) (by rw [hops15]; rfl) rfl ?_
      refine p_on rfl (by rw [hops15]; rfl) ?_
      refine p_run (l' := _) _ (x_pick false (undef) (.bool false) (.bool false) rfl rfl rfl rfl rfl) rfl ?_
      refine p_run (l' := _) _ (x_pick false (.bool true) (.bool false) (.bool false) rfl rfl rfl rfl rfl) rfl ?_
      clear hops15
      refine wpList_nil ?_
      refine fr_at (l' := [.agg ([vs, vb, vp, .bool false, .int .i64 R.left, .bool false] : List Value).toArray, .pointer (some ⟨g5, 0, none⟩), .pointer (some ⟨g8, 0, none⟩), .int .i64 0, .pointer (some ⟨g5, 5, none⟩), .bool false, .bool false, .pointer (some ⟨g5, 3, none⟩), .bool false, .bool false, undef, undef, undef, .bool false, .bool false, undef, undef, undef, undef, undef, undef, undef, undef, undef]) rfl ?_
      refine hK14 _ _ ?_
      refine c_false rfl ?_
      refine wp_skip ?_
      refine hK12 _ _ ?_
      refine wp_seq_k (fun K17 hK18 => ?_)
      refine wp_seq_k (fun K19 hK20 => ?_)
      refine c_region (fun ops22 hops21 => ?_)
      clear hops21
      refine p_run (l' := _) _ (x_field (j := 3) _ _ rfl rfl Try.underlying51 rfl (by rfl) rfl) rfl ?_
      refine p_run (l' := _) _ (x_load (.bool false) rfl rfl (bkCell (HS.get (.tail _ (.head _))) 3 _ rfl) (by rfl)) rfl ?_
      refine wpList_nil ?_
      refine fr_at (l' := [.agg ([vs, vb, vp, .bool false, .int .i64 R.left, .bool false] : List Value).toArray, .pointer (some ⟨g5, 0, none⟩), .pointer (some ⟨g8, 0, none⟩), .int .i64 0, .pointer (some ⟨g5, 5, none⟩), .bool false, .bool false, .pointer (some ⟨g5, 3, none⟩), .bool false, .bool false, undef, undef, undef, .bool false, .bool false, undef, undef, .pointer (some ⟨g5, 3, none⟩), .bool false, undef, undef, undef, undef, undef]) rfl ?_
      refine hK20 _ _ ?_
      refine c_false rfl ?_
      refine wp_skip ?_
      refine hK18 _ _ ?_
      refine wp_seq_k (fun K23 hK24 => ?_)
      refine c_region (fun ops26 hops25 => ?_)
      clear hops25
      refine p_run (l' := _) _ (x_loads [vs, vb, vp, .bool false, .int .i64 R.left, .bool false] 6 rfl rfl (bkCells (HS.get (.tail _ (.head _))) 0 _ rfl) (by rfl) (by kernel_rfl) rfl) rfl ?_
      refine St.stores (cs' := [vs, vb, vp, .bool false, .int .i64 R.left, .bool false]) HS [vs, vb, vp, .bool false, .int .i64 R.left, .bool false] 6 rfl rfl (all1 (row_one (HS.get (.tail _ (.tail _ (.head _))))) (all1 (row_one (HS.get (.tail _ (.tail _ (.tail _ (.head _)))))) (all1 (row_one (HS.get (.tail _ (.tail _ (.tail _ (.tail _ (.head _))))))) (all1 rfl (all1 rfl (all1 rfl rfl)))))) (by kernel_rfl) rfl (by simp) rfl ?_
      clear HS
      intro w27 HS
      refine p_run (l' := _) _ (x_assign (.int .i64 0) rfl rfl) rfl ?_
      refine wpList_nil ?_
      refine fr_at (l' := [.agg ([vs, vb, vp, .bool false, .int .i64 R.left, .bool false] : List Value).toArray, .pointer (some ⟨g5, 0, none⟩), .pointer (some ⟨g8, 0, none⟩), .int .i64 0, .pointer (some ⟨g5, 5, none⟩), .bool false, .bool false, .pointer (some ⟨g5, 3, none⟩), .bool false, .bool false, undef, undef, undef, .bool false, .bool false, undef, undef, .pointer (some ⟨g5, 3, none⟩), .bool false, undef, undef, undef, undef, .agg ([vs, vb, vp, .bool false, .int .i64 R.left, .bool false] : List Value).toArray]) rfl ?_
      refine hK24 _ _ ?_
      refine wp_ret ?_
      try simp only [Exit.inBlock, Exit.then]
      refine c_ret (.tuple [.agg ([vs, vb, vp, .bool false, .int .i64 R.left, .bool false] : List Value).toArray, .int .i64 0].toArray) (r_ct rfl rfl (run_loadVar_aggn (by rfl) [vs, vb, vp, .bool false, .int .i64 R.left, .bool false] 6 (by kernel_rfl) rfl (bkCells (HS.get (.head _)) 0 _ (whole _))) rfl) ?_
      have e0 : R.acts = true := by unfold Rk.acts; rw [hd, hc]; rfl
      have e1 : R.act = R := by unfold Rk.act; rw [if_pos e0, if_neg (by rw [hc]; decide)]
      have e2 : R.actE = 0 := by unfold Rk.actE; rw [if_pos e0]
      rw [e1, e2]
      exact ⟨by simp [rkV, hc, hd], (((HS.drop.drop.front 2 rfl).front 2 rfl).front 2 rfl)⟩
    · skip
      have hl' := hl hc
      by_cases hz' : R.left = 0
      · skip
        have hz : cmpB .eql R.left 0 = true := by rw [hz']; rfl
        refine c_enter Try.func36 rfl 24 rfl [.agg ([vs, vb, vp, .bool true, .int .i64 R.left, .bool false] : List Value).toArray, undef, undef, undef, undef, undef, undef, undef, undef, undef, undef, undef, undef, undef, undef, undef, undef, undef, undef, undef, undef, undef, undef, undef] rfl ?_
        refine wp_seq_k (fun K1 hK2 => ?_)
        refine c_region (fun ops4 hops3 => ?_)
        clear hops3
        refine St.wBox HS (cs := [vs, vb, vp, .bool true, .int .i64 R.left, .bool false]) (.agg ([vs, vb, vp, .bool true, .int .i64 R.left, .bool false] : List Value).toArray) rfl rfl ?_
        clear HS
        intro g5 w6 hg7 HS
        refine St.wAlloc HS (cs := [.slice none 0 0, .slice none 0 0, .slice none 0 0, .bool false, .int .i64 0, .bool false]) (.agg [.slice none 0 0, .slice none 0 0, .slice none 0 0, .bool false, .int .i64 0, .bool false].toArray) (by kernel_rfl) rfl ?_
        clear HS
        intro g8 w9 hg10 HS
        refine p_run (l' := _) _ (x_assign (.int .i64 0) rfl rfl) rfl ?_
        refine wpList_nil ?_
        refine fr_at (l' := [.agg ([vs, vb, vp, .bool true, .int .i64 R.left, .bool false] : List Value).toArray, .pointer (some ⟨g5, 0, none⟩), .pointer (some ⟨g8, 0, none⟩), .int .i64 0, undef, undef, undef, undef, undef, undef, undef, undef, undef, undef, undef, undef, undef, undef, undef, undef, undef, undef, undef, undef]) rfl ?_
        refine hK2 _ _ ?_
        refine wp_seq_k (fun K11 hK12 => ?_)
        refine wp_seq_k (fun K13 hK14 => ?_)
        refine c_region (fun ops16 hops15 => ?_)
        refine p_run (l' := _) _ (x_field (j := 5) _ _ rfl rfl Try.underlying51 rfl (by rfl) rfl) rfl ?_
        refine p_run (l' := _) _ (x_load (.bool false) rfl rfl (bkCell (HS.get (.tail _ (.head _))) 5 _ rfl) (by rfl)) rfl ?_
        refine p_run (l' := _) _ (x_move (.bool false) rfl rfl) rfl ?_
        refine p_on rfl (by rw [hops15]; rfl) ?_
        refine p_run (l' := [.agg ([vs, vb, vp, .bool true, .int .i64 R.left, .bool false] : List Value).toArray, .pointer (some ⟨g5, 0, none⟩), .pointer (some ⟨g8, 0, none⟩), .int .i64 0, .pointer (some ⟨g5, 5, none⟩), .bool false, .bool false, .pointer (some ⟨g5, 3, none⟩), undef, undef, undef, undef, undef, undef, undef, undef, undef, undef, undef, undef, undef, undef, undef, undef]) _ (x_field (j := 3) _ _ rfl rfl Try.underlying51 rfl (by rfl) rfl) rfl ?_
        refine p_on rfl (by rw [hops15]; rfl) ?_
        refine p_run (l' := _) _ (x_load (.bool true) rfl rfl (bkCell (HS.get (.tail _ (.head _))) 3 _ rfl) (by rfl)) rfl ?_
        refine p_on rfl (by rw [hops15]; rfl) ?_
        refine p_run (l' := _) _ (x_move (.bool true) rfl rfl) rfl ?_
        refine p_on rfl (by rw [hops15]; rfl) ?_
        refine p_run (l' := _) _ (x_field (j := 4) _ _ rfl rfl Try.underlying51 rfl (by rfl) rfl) rfl ?_
        refine p_on rfl (by rw [hops15]; rfl) ?_
        refine p_run (l' := [.agg ([vs, vb, vp, .bool true, .int .i64 R.left, .bool false] : List Value).toArray, .pointer (some ⟨g5, 0, none⟩), .pointer (some ⟨g8, 0, none⟩), .int .i64 0, .pointer (some ⟨g5, 5, none⟩), .bool false, .bool false, .pointer (some ⟨g5, 3, none⟩), .bool true, .bool true, .pointer (some ⟨g5, 4, none⟩), .int .i64 R.left, undef, undef, undef, undef, undef, undef, undef, undef, undef, undef, undef, undef]) _ (x_load (.int .i64 R.left) rfl rfl (bkCell (HS.get (.tail _ (.head _))) 4 _ rfl) (by rfl)) rfl ?_
        refine p_on rfl (by rw [hops15]; rfl) ?_
        refine p_run (l' := _) _ (x_cmp (k := .i64) (m := R.left) (n := 0) .eql true rfl rfl rfl hz rfl) rfl ?_
        refine p_on rfl (by rw [hops15]; rfl) ?_
        refine p_run (l' := _) _ (x_pick true (.bool true) (.bool false) (.bool true) rfl rfl rfl rfl rfl) rfl ?_
        refine p_run (l' := _) _ (x_pick false (.bool true) (.bool true) (.bool true) rfl rfl rfl rfl rfl) rfl ?_
        clear hops15
        refine wpList_nil ?_
        refine fr_at (l' := [.agg ([vs, vb, vp, .bool true, .int .i64 R.left, .bool false] : List Value).toArray, .pointer (some ⟨g5, 0, none⟩), .pointer (some ⟨g8, 0, none⟩), .int .i64 0, .pointer (some ⟨g5, 5, none⟩), .bool false, .bool false, .pointer (some ⟨g5, 3, none⟩), .bool true, .bool true, .pointer (some ⟨g5, 4, none⟩), .int .i64 R.left, .bool true, .bool true, .bool true, undef, undef, undef, undef, undef, undef, undef, undef, undef]) rfl ?_
        refine hK14 _ _ ?_
        refine c_true rfl ?_
        refine wp_seq_k (fun K17 hK18 => ?_)
        refine c_region (fun ops20 hops19 => ?_)
        clear hops19
        refine p_run (l' := _) _ (x_field (j := 5) _ _ rfl rfl Try.underlying51 rfl (by rfl) rfl) rfl ?_
        refine St.store (cs' := [vs, vb, vp, .bool true, .int .i64 R.left, .bool true]) (HS.front 1 rfl) (.bool true) rfl rfl rfl (by kernel_rfl) (by rfl) rfl ?_
        clear HS
        intro w21 HS
        refine wpList_nil ?_
        refine fr_at (l' := [.agg ([vs, vb, vp, .bool true, .int .i64 R.left, .bool false] : List Value).toArray, .pointer (some ⟨g5, 0, none⟩), .pointer (some ⟨g8, 0, none⟩), .int .i64 0, .pointer (some ⟨g5, 5, none⟩), .bool false, .bool false, .pointer (some ⟨g5, 3, none⟩), .bool true, .bool true, .pointer (some ⟨g5, 4, none⟩), .int .i64 R.left, .bool true, .bool true, .bool true, .pointer (some ⟨g5, 5, none⟩), undef, undef, undef, undef, undef, undef, undef, undef]) rfl ?_
        refine hK18 _ _ ?_
        refine wp_seq_k (fun K22 hK23 => ?_)
        refine c_region (fun ops25 hops24 => ?_)
        clear hops24
        refine p_run (l' := _) _ (x_loads [vs, vb, vp, .bool true, .int .i64 R.left, .bool true] 6 rfl rfl (bkCells (HS.get (.head _)) 0 _ rfl) (by rfl) (by kernel_rfl) rfl) rfl ?_
        refine St.stores (cs' := [vs, vb, vp, .bool true, .int .i64 R.left, .bool true]) (HS.front 1 rfl) [vs, vb, vp, .bool true, .int .i64 R.left, .bool true] 6 rfl rfl (all1 (row_one (HS.get (.tail _ (.tail _ (.head _))))) (all1 (row_one (HS.get (.tail _ (.tail _ (.tail _ (.head _)))))) (all1 (row_one (HS.get (.tail _ (.tail _ (.tail _ (.tail _ (.head _))))))) (all1 rfl (all1 rfl (all1 rfl rfl)))))) (by kernel_rfl) rfl (by simp) rfl ?_
        clear HS
        intro w26 HS
        refine p_run (l' := _) _ (x_assign (.int .i64 42) rfl rfl) rfl ?_
        refine wpList_nil ?_
        refine fr_at (l' := [.agg ([vs, vb, vp, .bool true, .int .i64 R.left, .bool false] : List Value).toArray, .pointer (some ⟨g5, 0, none⟩), .pointer (some ⟨g8, 0, none⟩), .int .i64 42, .pointer (some ⟨g5, 5, none⟩), .bool false, .bool false, .pointer (some ⟨g5, 3, none⟩), .bool true, .bool true, .pointer (some ⟨g5, 4, none⟩), .int .i64 R.left, .bool true, .bool true, .bool true, .pointer (some ⟨g5, 5, none⟩), .agg ([vs, vb, vp, .bool true, .int .i64 R.left, .bool true] : List Value).toArray, undef, undef, undef, undef, undef, undef, undef]) rfl ?_
        refine hK23 _ _ ?_
        refine wp_ret ?_
        try simp only [Exit.inBlock, Exit.then]
        refine c_ret (.tuple [.agg ([vs, vb, vp, .bool true, .int .i64 R.left, .bool true] : List Value).toArray, .int .i64 42].toArray) (r_ct rfl rfl (run_loadVar_aggn (by rfl) [vs, vb, vp, .bool true, .int .i64 R.left, .bool true] 6 (by kernel_rfl) rfl (bkCells (HS.get (.head _)) 0 _ (whole _))) rfl) ?_
        have e0 : R.acts = false := by unfold Rk.acts; rw [hd, hc]; simp [hz']
        have e1 : R.act = { R with down := true } := by unfold Rk.act; rw [e0]; rfl
        have e2 : R.actE = 42 := by unfold Rk.actE; rw [e0]; rfl
        rw [e1, e2]
        exact ⟨by simp [rkV, hc, hd], (((HS.drop.drop.front 2 rfl).front 2 rfl).front 2 rfl)⟩
      · skip
        have hz : cmpB .eql R.left 0 = false := by simpa [cmpB] using hz'
        refine c_enter Try.func36 rfl 24 rfl [.agg ([vs, vb, vp, .bool true, .int .i64 R.left, .bool false] : List Value).toArray, undef, undef, undef, undef, undef, undef, undef, undef, undef, undef, undef, undef, undef, undef, undef, undef, undef, undef, undef, undef, undef, undef, undef] rfl ?_
        refine wp_seq_k (fun K1 hK2 => ?_)
        refine c_region (fun ops4 hops3 => ?_)
        clear hops3
        refine St.wBox HS (cs := [vs, vb, vp, .bool true, .int .i64 R.left, .bool false]) (.agg ([vs, vb, vp, .bool true, .int .i64 R.left, .bool false] : List Value).toArray) rfl rfl ?_
        clear HS
        intro g5 w6 hg7 HS
        refine St.wAlloc HS (cs := [.slice none 0 0, .slice none 0 0, .slice none 0 0, .bool false, .int .i64 0, .bool false]) (.agg [.slice none 0 0, .slice none 0 0, .slice none 0 0, .bool false, .int .i64 0, .bool false].toArray) (by kernel_rfl) rfl ?_
        clear HS
        intro g8 w9 hg10 HS
        refine p_run (l' := _) _ (x_assign (.int .i64 0) rfl rfl) rfl ?_
        refine wpList_nil ?_
        refine fr_at (l' := [.agg ([vs, vb, vp, .bool true, .int .i64 R.left, .bool false] : List Value).toArray, .pointer (some ⟨g5, 0, none⟩), .pointer (some ⟨g8, 0, none⟩), .int .i64 0, undef, undef, undef, undef, undef, undef, undef, undef, undef, undef, undef, undef, undef, undef, undef, undef, undef, undef, undef, undef]) rfl ?_
        refine hK2 _ _ ?_
        refine wp_seq_k (fun K11 hK12 => ?_)
        refine wp_seq_k (fun K13 hK14 => ?_)
        refine c_region (fun ops16 hops15 => ?_)
        refine p_run (l' := _) _ (x_field (j := 5) _ _ rfl rfl Try.underlying51 rfl (by rfl) rfl) rfl ?_
        refine p_run (l' := _) _ (x_load (.bool false) rfl rfl (bkCell (HS.get (.tail _ (.head _))) 5 _ rfl) (by rfl)) rfl ?_
        refine p_run (l' := _) _ (x_move (.bool false) rfl rfl) rfl ?_
        refine p_on rfl (by rw [hops15]; rfl) ?_
        refine p_run (l' := [.agg ([vs, vb, vp, .bool true, .int .i64 R.left, .bool false] : List Value).toArray, .pointer (some ⟨g5, 0, none⟩), .pointer (some ⟨g8, 0, none⟩), .int .i64 0, .pointer (some ⟨g5, 5, none⟩), .bool false, .bool false, .pointer (some ⟨g5, 3, none⟩), undef, undef, undef, undef, undef, undef, undef, undef, undef, undef, undef, undef, undef, undef, undef, undef]) _ (x_field (j := 3) _ _ rfl rfl Try.underlying51 rfl (by rfl) rfl) rfl ?_
        refine p_on rfl (by rw [hops15]; rfl) ?_
        refine p_run (l' := _) _ (x_load (.bool true) rfl rfl (bkCell (HS.get (.tail _ (.head _))) 3 _ rfl) (by rfl)) rfl ?_
        refine p_on rfl (by rw [hops15]; rfl) ?_
        refine p_run (l' := _) _ (x_move (.bool true) rfl rfl) rfl ?_
        refine p_on rfl (by rw [hops15]; rfl) ?_
        refine p_run (l' := _) _ (x_field (j := 4) _ _ rfl rfl Try.underlying51 rfl (by rfl) rfl) rfl ?_
        refine p_on rfl (by rw [hops15]; rfl) ?_
        refine p_run (l' := [.agg ([vs, vb, vp, .bool true, .int .i64 R.left, .bool false] : List Value).toArray, .pointer (some ⟨g5, 0, none⟩), .pointer (some ⟨g8, 0, none⟩), .int .i64 0, .pointer (some ⟨g5, 5, none⟩), .bool false, .bool false, .pointer (some ⟨g5, 3, none⟩), .bool true, .bool true, .pointer (some ⟨g5, 4, none⟩), .int .i64 R.left, undef, undef, undef, undef, undef, undef, undef, undef, undef, undef, undef, undef]) _ (x_load (.int .i64 R.left) rfl rfl (bkCell (HS.get (.tail _ (.head _))) 4 _ rfl) (by rfl)) rfl ?_
        refine p_on rfl (by rw [hops15]; rfl) ?_
        refine p_run (l' := _) _ (x_cmp (k := .i64) (m := R.left) (n := 0) .eql false rfl rfl rfl hz rfl) rfl ?_
        refine p_on rfl (by rw [hops15]; rfl) ?_
        refine p_run (l' := _) _ (x_pick true (.bool false) (.bool false) (.bool false) rfl rfl rfl rfl rfl) rfl ?_
        refine p_run (l' := _) _ (x_pick false (.bool true) (.bool false) (.bool false) rfl rfl rfl rfl rfl) rfl ?_
        clear hops15
        refine wpList_nil ?_
        refine fr_at (l' := [.agg ([vs, vb, vp, .bool true, .int .i64 R.left, .bool false] : List Value).toArray, .pointer (some ⟨g5, 0, none⟩), .pointer (some ⟨g8, 0, none⟩), .int .i64 0, .pointer (some ⟨g5, 5, none⟩), .bool false, .bool false, .pointer (some ⟨g5, 3, none⟩), .bool true, .bool true, .pointer (some ⟨g5, 4, none⟩), .int .i64 R.left, .bool false, .bool false, .bool false, undef, undef, undef, undef, undef, undef, undef, undef, undef]) rfl ?_
        refine hK14 _ _ ?_
        refine c_false rfl ?_
        refine wp_skip ?_
        refine hK12 _ _ ?_
        refine wp_seq_k (fun K17 hK18 => ?_)
        refine wp_seq_k (fun K19 hK20 => ?_)
        refine c_region (fun ops22 hops21 => ?_)
        clear hops21
        refine p_run (l' := _) _ (x_field (j := 3) _ _ rfl rfl Try.underlying51 rfl (by rfl) rfl) rfl ?_
        refine p_run (l' := _) _ (x_load (.bool true) rfl rfl (bkCell (HS.get (.tail _ (.head _))) 3 _ rfl) (by rfl)) rfl ?_
        refine wpList_nil ?_
        refine fr_at (l' := [.agg ([vs, vb, vp, .bool true, .int .i64 R.left, .bool false] : List Value).toArray, .pointer (some ⟨g5, 0, none⟩), .pointer (some ⟨g8, 0, none⟩), .int .i64 0, .pointer (some ⟨g5, 5, none⟩), .bool false, .bool false, .pointer (some ⟨g5, 3, none⟩), .bool true, .bool true, .pointer (some ⟨g5, 4, none⟩), .int .i64 R.left, .bool false, .bool false, .bool false, undef, undef, .pointer (some ⟨g5, 3, none⟩), .bool true, undef, undef, undef, undef, undef]) rfl ?_
        refine hK20 _ _ ?_
        refine c_true rfl ?_
        refine c_region (fun ops24 hops23 => ?_)
        clear hops23
        refine p_run (l' := _) _ (x_field (j := 4) _ _ rfl rfl Try.underlying51 rfl (by rfl) rfl) rfl ?_
        refine p_run (l' := _) _ (x_load (.int .i64 R.left) rfl rfl (bkCell (HS.get (.tail _ (.head _))) 4 _ rfl) (by rfl)) rfl ?_
        refine p_run (l' := _) _ (x_arith (k := .i64) (m := R.left) (n := 1) .sub ((R.left - 1)) rfl rfl rfl (show IntKind.i64.wrap (R.left - 1) = (R.left - 1) from (wr64 (by omega))) rfl) rfl ?_
        refine p_run (l' := [.agg ([vs, vb, vp, .bool true, .int .i64 R.left, .bool false] : List Value).toArray, .pointer (some ⟨g5, 0, none⟩), .pointer (some ⟨g8, 0, none⟩), .int .i64 0, .pointer (some ⟨g5, 5, none⟩), .bool false, .bool false, .pointer (some ⟨g5, 3, none⟩), .bool true, .bool true, .pointer (some ⟨g5, 4, none⟩), .int .i64 R.left, .bool false, .bool false, .bool false, undef, undef, .pointer (some ⟨g5, 3, none⟩), .bool true, .pointer (some ⟨g5, 4, none⟩), .int .i64 R.left, .int .i64 (R.left - 1), .pointer (some ⟨g5, 4, none⟩), undef]) _ (x_field (j := 4) _ _ rfl rfl Try.underlying51 rfl (by rfl) rfl) rfl ?_
        refine St.store (cs' := [vs, vb, vp, .bool true, .int .i64 (R.left - 1), .bool false]) (HS.front 1 rfl) (.int .i64 (R.left - 1)) rfl rfl rfl (by kernel_rfl) (by rfl) rfl ?_
        clear HS
        intro w25 HS
        refine wpList_nil ?_
        refine hK18 _ _ ?_
        refine wp_seq_k (fun K26 hK27 => ?_)
        refine c_region (fun ops29 hops28 => ?_)
        clear hops28
        refine p_run (l' := _) _ (x_loads [vs, vb, vp, .bool true, .int .i64 (R.left - 1), .bool false] 6 rfl rfl (bkCells (HS.get (.head _)) 0 _ rfl) (by rfl) (by kernel_rfl) rfl) rfl ?_
        refine St.stores (cs' := [vs, vb, vp, .bool true, .int .i64 (R.left - 1), .bool false]) (HS.front 1 rfl) [vs, vb, vp, .bool true, .int .i64 (R.left - 1), .bool false] 6 rfl rfl (all1 (row_one (HS.get (.tail _ (.tail _ (.head _))))) (all1 (row_one (HS.get (.tail _ (.tail _ (.tail _ (.head _)))))) (all1 (row_one (HS.get (.tail _ (.tail _ (.tail _ (.tail _ (.head _))))))) (all1 rfl (all1 rfl (all1 rfl rfl)))))) (by kernel_rfl) rfl (by simp) rfl ?_
        clear HS
        intro w30 HS
        refine p_run (l' := _) _ (x_assign (.int .i64 0) rfl rfl) rfl ?_
        refine wpList_nil ?_
        refine fr_at (l' := [.agg ([vs, vb, vp, .bool true, .int .i64 R.left, .bool false] : List Value).toArray, .pointer (some ⟨g5, 0, none⟩), .pointer (some ⟨g8, 0, none⟩), .int .i64 0, .pointer (some ⟨g5, 5, none⟩), .bool false, .bool false, .pointer (some ⟨g5, 3, none⟩), .bool true, .bool true, .pointer (some ⟨g5, 4, none⟩), .int .i64 R.left, .bool false, .bool false, .bool false, undef, undef, .pointer (some ⟨g5, 3, none⟩), .bool true, .pointer (some ⟨g5, 4, none⟩), .int .i64 R.left, .int .i64 (R.left - 1), .pointer (some ⟨g5, 4, none⟩), .agg ([vs, vb, vp, .bool true, .int .i64 (R.left - 1), .bool false] : List Value).toArray]) rfl ?_
        refine hK27 _ _ ?_
        refine wp_ret ?_
        try simp only [Exit.inBlock, Exit.then]
        refine c_ret (.tuple [.agg ([vs, vb, vp, .bool true, .int .i64 (R.left - 1), .bool false] : List Value).toArray, .int .i64 0].toArray) (r_ct rfl rfl (run_loadVar_aggn (by rfl) [vs, vb, vp, .bool true, .int .i64 (R.left - 1), .bool false] 6 (by kernel_rfl) rfl (bkCells (HS.get (.head _)) 0 _ (whole _))) rfl) ?_
        have e0 : R.acts = true := by unfold Rk.acts; rw [hd, hc]; simp [hz']
        have e1 : R.act = { R with left := R.left - 1 } := by unfold Rk.act; rw [if_pos e0, if_pos hc]
        have e2 : R.actE = 0 := by unfold Rk.actE; rw [if_pos e0]
        rw [e1, e2]
        exact ⟨by simp [rkV, hc, hd], (((HS.drop.drop.front 2 rfl).front 2 rfl).front 2 rfl)⟩
  · skip
    rcases hc : R.counted with _ | _
    · skip
      refine c_enter Try.func36 rfl 24 rfl [.agg ([vs, vb, vp, .bool false, .int .i64 R.left, .bool true] : List Value).toArray, undef, undef, undef, undef, undef, undef, undef, undef, undef, undef, undef, undef, undef, undef, undef, undef, undef, undef, undef, undef, undef, undef, undef] rfl ?_
      refine wp_seq_k (fun K1 hK2 => ?_)
      refine c_region (fun ops4 hops3 => ?_)
      clear hops3
      refine St.wBox HS (cs := [vs, vb, vp, .bool false, .int .i64 R.left, .bool true]) (.agg ([vs, vb, vp, .bool false, .int .i64 R.left, .bool true] : List Value).toArray) rfl rfl ?_
      clear HS
      intro g5 w6 hg7 HS
      refine St.wAlloc HS (cs := [.slice none 0 0, .slice none 0 0, .slice none 0 0, .bool false, .int .i64 0, .bool false]) (.agg [.slice none 0 0, .slice none 0 0, .slice none 0 0, .bool false, .int .i64 0, .bool false].toArray) (by kernel_rfl) rfl ?_
      clear HS
      intro g8 w9 hg10 HS
      refine p_run (l' := _) _ (x_assign (.int .i64 0) rfl rfl) rfl ?_
      refine wpList_nil ?_
      refine fr_at (l' := [.agg ([vs, vb, vp, .bool false, .int .i64 R.left, .bool true] : List Value).toArray, .pointer (some ⟨g5, 0, none⟩), .pointer (some ⟨g8, 0, none⟩), .int .i64 0, undef, undef, undef, undef, undef, undef, undef, undef, undef, undef, undef, undef, undef, undef, undef, undef, undef, undef, undef, undef]) rfl ?_
      refine hK2 _ _ ?_
      refine wp_seq_k (fun K11 hK12 => ?_)
      refine wp_seq_k (fun K13 hK14 => ?_)
      refine c_region (fun ops16 hops15 => ?_)
      refine p_run (l' := _) _ (x_field (j := 5) _ _ rfl rfl Try.underlying51 rfl (by rfl) rfl) rfl ?_
      refine p_run (l' := _) _ (x_load (.bool true) rfl rfl (bkCell (HS.get (.tail _ (.head _))) 5 _ rfl) (by rfl)) rfl ?_
      refine p_run (l' := _) _ (x_move (.bool true) rfl rfl) rfl ?_
      refine p_off (l' := [.agg ([vs, vb, vp, .bool false, .int .i64 R.left, .bool true] : List Value).toArray, .pointer (some ⟨g5, 0, none⟩), .pointer (some ⟨g8, 0, none⟩), .int .i64 0, .pointer (some ⟨g5, 5, none⟩), .bool true, .bool true, undef, undef, undef, undef, undef, undef, undef, undef, undef, undef, undef, undef, undef, undef, undef, undef, undef]) (by rw [hops15]; rfl) rfl ?_
      refine p_off (l' := _) (by rw [hops15]; rfl) rfl ?_
      refine p_off (l' := _) (by rw [hops15]; rfl) rfl ?_
      refine p_off (l' := _) (by rw [hops15]; rfl) rfl ?_
      refine p_off (l' := [.agg ([vs, vb, vp, .bool false, .int .i64 R.left, .bool true] : List Value).toArray, .pointer (some ⟨g5, 0, none⟩), .pointer (some ⟨g8, 0, none⟩), .int .i64 0, .pointer (some ⟨g5, 5, none⟩), .bool true, .bool true, undef, undef, undef, undef, undef, undef, undef, undef, undef, undef, undef, undef, undef, undef, undef, undef, undef]) (by rw [hops15]; rfl) rfl ?_
      refine p_off (l' := _) (by rw [hops15]; rfl) rfl ?_
      refine p_off (l' := _) (by rw [hops15]; rfl) rfl ?_
      refine p_run (l' := _) _ (x_pick true (.bool true) (undef) (.bool true) rfl rfl rfl rfl rfl) rfl ?_
      clear hops15
      refine wpList_nil ?_
      refine fr_at (l' := [.agg ([vs, vb, vp, .bool false, .int .i64 R.left, .bool true] : List Value).toArray, .pointer (some ⟨g5, 0, none⟩), .pointer (some ⟨g8, 0, none⟩), .int .i64 0, .pointer (some ⟨g5, 5, none⟩), .bool true, .bool true, undef, undef, undef, undef, undef, undef, undef, .bool true, undef, undef, undef, undef, undef, undef, undef, undef, undef]) rfl ?_
      refine hK14 _ _ ?_
      refine c_true rfl ?_
      refine wp_seq_k (fun K17 hK18 => ?_)
      refine c_region (fun ops20 hops19 => ?_)
      clear hops19
      refine p_run (l' := _) _ (x_field (j := 5) _ _ rfl rfl Try.underlying51 rfl (by rfl) rfl) rfl ?_
      refine St.store (cs' := [vs, vb, vp, .bool false, .int .i64 R.left, .bool true]) (HS.front 1 rfl) (.bool true) rfl rfl rfl (by kernel_rfl) (by rfl) rfl ?_
      clear HS
      intro w21 HS
      refine wpList_nil ?_
      refine fr_at (l' := [.agg ([vs, vb, vp, .bool false, .int .i64 R.left, .bool true] : List Value).toArray, .pointer (some ⟨g5, 0, none⟩), .pointer (some ⟨g8, 0, none⟩), .int .i64 0, .pointer (some ⟨g5, 5, none⟩), .bool true, .bool true, undef, undef, undef, undef, undef, undef, undef, .bool true, .pointer (some ⟨g5, 5, none⟩), undef, undef, undef, undef, undef, undef, undef, undef]) rfl ?_
      refine hK18 _ _ ?_
      refine wp_seq_k (fun K22 hK23 => ?_)
      refine c_region (fun ops25 hops24 => ?_)
      clear hops24
      refine p_run (l' := _) _ (x_loads [vs, vb, vp, .bool false, .int .i64 R.left, .bool true] 6 rfl rfl (bkCells (HS.get (.head _)) 0 _ rfl) (by rfl) (by kernel_rfl) rfl) rfl ?_
      refine St.stores (cs' := [vs, vb, vp, .bool false, .int .i64 R.left, .bool true]) (HS.front 1 rfl) [vs, vb, vp, .bool false, .int .i64 R.left, .bool true] 6 rfl rfl (all1 (row_one (HS.get (.tail _ (.tail _ (.head _))))) (all1 (row_one (HS.get (.tail _ (.tail _ (.tail _ (.head _)))))) (all1 (row_one (HS.get (.tail _ (.tail _ (.tail _ (.tail _ (.head _))))))) (all1 rfl (all1 rfl (all1 rfl rfl)))))) (by kernel_rfl) rfl (by simp) rfl ?_
      clear HS
      intro w26 HS
      refine p_run (l' := _) _ (x_assign (.int .i64 42) rfl rfl) rfl ?_
      refine wpList_nil ?_
      refine fr_at (l' := [.agg ([vs, vb, vp, .bool false, .int .i64 R.left, .bool true] : List Value).toArray, .pointer (some ⟨g5, 0, none⟩), .pointer (some ⟨g8, 0, none⟩), .int .i64 42, .pointer (some ⟨g5, 5, none⟩), .bool true, .bool true, undef, undef, undef, undef, undef, undef, undef, .bool true, .pointer (some ⟨g5, 5, none⟩), .agg ([vs, vb, vp, .bool false, .int .i64 R.left, .bool true] : List Value).toArray, undef, undef, undef, undef, undef, undef, undef]) rfl ?_
      refine hK23 _ _ ?_
      refine wp_ret ?_
      try simp only [Exit.inBlock, Exit.then]
      refine c_ret (.tuple [.agg ([vs, vb, vp, .bool false, .int .i64 R.left, .bool true] : List Value).toArray, .int .i64 42].toArray) (r_ct rfl rfl (run_loadVar_aggn (by rfl) [vs, vb, vp, .bool false, .int .i64 R.left, .bool true] 6 (by kernel_rfl) rfl (bkCells (HS.get (.head _)) 0 _ (whole _))) rfl) ?_
      have e0 : R.acts = false := by unfold Rk.acts; rw [hd, hc]; simp
      have e1 : R.act = { R with down := true } := by unfold Rk.act; rw [e0]; rfl
      have e2 : R.actE = 42 := by unfold Rk.actE; rw [e0]; rfl
      rw [e1, e2]
      exact ⟨by simp [rkV, hc, hd], (((HS.drop.drop.front 2 rfl).front 2 rfl).front 2 rfl)⟩
    · skip
      refine c_enter Try.func36 rfl 24 rfl [.agg ([vs, vb, vp, .bool true, .int .i64 R.left, .bool true] : List Value).toArray, undef, undef, undef, undef, undef, undef, undef, undef, undef, undef, undef, undef, undef, undef, undef, undef, undef, undef, undef, undef, undef, undef, undef] rfl ?_
      refine wp_seq_k (fun K1 hK2 => ?_)
      refine c_region (fun ops4 hops3 => ?_)
      clear hops3
      refine St.wBox HS (cs := [vs, vb, vp, .bool true, .int .i64 R.left, .bool true]) (.agg ([vs, vb, vp, .bool true, .int .i64 R.left, .bool true] : List Value).toArray) rfl rfl ?_
      clear HS
      intro g5 w6 hg7 HS
      refine St.wAlloc HS (cs := [.slice none 0 0, .slice none 0 0, .slice none 0 0, .bool false, .int .i64 0, .bool false]) (.agg [.slice none 0 0, .slice none 0 0, .slice none 0 0, .bool false, .int .i64 0, .bool false].toArray) (by kernel_rfl) rfl ?_
      clear HS
      intro g8 w9 hg10 HS
      refine p_run (l' := _) _ (x_assign (.int .i64 0) rfl rfl) rfl ?_
      refine wpList_nil ?_
      refine fr_at (l' := [.agg ([vs, vb, vp, .bool true, .int .i64 R.left, .bool true] : List Value).toArray, .pointer (some ⟨g5, 0, none⟩), .pointer (some ⟨g8, 0, none⟩), .int .i64 0, undef, undef, undef, undef, undef, undef, undef, undef, undef, undef, undef, undef, undef, undef, undef, undef, undef, undef, undef, undef]) rfl ?_
      refine hK2 _ _ ?_
      refine wp_seq_k (fun K11 hK12 => ?_)
      refine wp_seq_k (fun K13 hK14 => ?_)
      refine c_region (fun ops16 hops15 => ?_)
      refine p_run (l' := _) _ (x_field (j := 5) _ _ rfl rfl Try.underlying51 rfl (by rfl) rfl) rfl ?_
      refine p_run (l' := _) _ (x_load (.bool true) rfl rfl (bkCell (HS.get (.tail _ (.head _))) 5 _ rfl) (by rfl)) rfl ?_
      refine p_run (l' := _) _ (x_move (.bool true) rfl rfl) rfl ?_
      refine p_off (l' := [.agg ([vs, vb, vp, .bool true, .int .i64 R.left, .bool true] : List Value).toArray, .pointer (some ⟨g5, 0, none⟩), .pointer (some ⟨g8, 0, none⟩), .int .i64 0, .pointer (some ⟨g5, 5, none⟩), .bool true, .bool true, undef, undef, undef, undef, undef, undef, undef, undef, undef, undef, undef, undef, undef, undef, undef, undef, undef]) (by rw [hops15]; rfl) rfl ?_
      refine p_off (l' := _) (by rw [hops15]; rfl) rfl ?_
      refine p_off (l' := _) (by rw [hops15]; rfl) rfl ?_
      refine p_off (l' := _) (by rw [hops15]; rfl) rfl ?_
      refine p_off (l' := [.agg ([vs, vb, vp, .bool true, .int .i64 R.left, .bool true] : List Value).toArray, .pointer (some ⟨g5, 0, none⟩), .pointer (some ⟨g8, 0, none⟩), .int .i64 0, .pointer (some ⟨g5, 5, none⟩), .bool true, .bool true, undef, undef, undef, undef, undef, undef, undef, undef, undef, undef, undef, undef, undef, undef, undef, undef, undef]) (by rw [hops15]; rfl) rfl ?_
      refine p_off (l' := _) (by rw [hops15]; rfl) rfl ?_
      refine p_off (l' := _) (by rw [hops15]; rfl) rfl ?_
      refine p_run (l' := _) _ (x_pick true (.bool true) (undef) (.bool true) rfl rfl rfl rfl rfl) rfl ?_
      clear hops15
      refine wpList_nil ?_
      refine fr_at (l' := [.agg ([vs, vb, vp, .bool true, .int .i64 R.left, .bool true] : List Value).toArray, .pointer (some ⟨g5, 0, none⟩), .pointer (some ⟨g8, 0, none⟩), .int .i64 0, .pointer (some ⟨g5, 5, none⟩), .bool true, .bool true, undef, undef, undef, undef, undef, undef, undef, .bool true, undef, undef, undef, undef, undef, undef, undef, undef, undef]) rfl ?_
      refine hK14 _ _ ?_
      refine c_true rfl ?_
      refine wp_seq_k (fun K17 hK18 => ?_)
      refine c_region (fun ops20 hops19 => ?_)
      clear hops19
      refine p_run (l' := _) _ (x_field (j := 5) _ _ rfl rfl Try.underlying51 rfl (by rfl) rfl) rfl ?_
      refine St.store (cs' := [vs, vb, vp, .bool true, .int .i64 R.left, .bool true]) (HS.front 1 rfl) (.bool true) rfl rfl rfl (by kernel_rfl) (by rfl) rfl ?_
      clear HS
      intro w21 HS
      refine wpList_nil ?_
      refine fr_at (l' := [.agg ([vs, vb, vp, .bool true, .int .i64 R.left, .bool true] : List Value).toArray, .pointer (some ⟨g5, 0, none⟩), .pointer (some ⟨g8, 0, none⟩), .int .i64 0, .pointer (some ⟨g5, 5, none⟩), .bool true, .bool true, undef, undef, undef, undef, undef, undef, undef, .bool true, .pointer (some ⟨g5, 5, none⟩), undef, undef, undef, undef, undef, undef, undef, undef]) rfl ?_
      refine hK18 _ _ ?_
      refine wp_seq_k (fun K22 hK23 => ?_)
      refine c_region (fun ops25 hops24 => ?_)
      clear hops24
      refine p_run (l' := _) _ (x_loads [vs, vb, vp, .bool true, .int .i64 R.left, .bool true] 6 rfl rfl (bkCells (HS.get (.head _)) 0 _ rfl) (by rfl) (by kernel_rfl) rfl) rfl ?_
      refine St.stores (cs' := [vs, vb, vp, .bool true, .int .i64 R.left, .bool true]) (HS.front 1 rfl) [vs, vb, vp, .bool true, .int .i64 R.left, .bool true] 6 rfl rfl (all1 (row_one (HS.get (.tail _ (.tail _ (.head _))))) (all1 (row_one (HS.get (.tail _ (.tail _ (.tail _ (.head _)))))) (all1 (row_one (HS.get (.tail _ (.tail _ (.tail _ (.tail _ (.head _))))))) (all1 rfl (all1 rfl (all1 rfl rfl)))))) (by kernel_rfl) rfl (by simp) rfl ?_
      clear HS
      intro w26 HS
      refine p_run (l' := _) _ (x_assign (.int .i64 42) rfl rfl) rfl ?_
      refine wpList_nil ?_
      refine fr_at (l' := [.agg ([vs, vb, vp, .bool true, .int .i64 R.left, .bool true] : List Value).toArray, .pointer (some ⟨g5, 0, none⟩), .pointer (some ⟨g8, 0, none⟩), .int .i64 42, .pointer (some ⟨g5, 5, none⟩), .bool true, .bool true, undef, undef, undef, undef, undef, undef, undef, .bool true, .pointer (some ⟨g5, 5, none⟩), .agg ([vs, vb, vp, .bool true, .int .i64 R.left, .bool true] : List Value).toArray, undef, undef, undef, undef, undef, undef, undef]) rfl ?_
      refine hK23 _ _ ?_
      refine wp_ret ?_
      try simp only [Exit.inBlock, Exit.then]
      refine c_ret (.tuple [.agg ([vs, vb, vp, .bool true, .int .i64 R.left, .bool true] : List Value).toArray, .int .i64 42].toArray) (r_ct rfl rfl (run_loadVar_aggn (by rfl) [vs, vb, vp, .bool true, .int .i64 R.left, .bool true] 6 (by kernel_rfl) rfl (bkCells (HS.get (.head _)) 0 _ (whole _))) rfl) ?_
      have e0 : R.acts = false := by unfold Rk.acts; rw [hd, hc]; simp
      have e1 : R.act = { R with down := true } := by unfold Rk.act; rw [e0]; rfl
      have e2 : R.actE = 42 := by unfold Rk.actE; rw [e0]; rfl
      rw [e1, e2]
      exact ⟨by simp [rkV, hc, hd], (((HS.drop.drop.front 2 rfl).front 2 rfl).front 2 rfl)⟩
end
end Go.Proofs.Ytjholgfaipfmbaa
