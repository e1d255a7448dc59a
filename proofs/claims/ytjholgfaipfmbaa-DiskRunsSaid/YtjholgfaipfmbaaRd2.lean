/- The document's disk: Cut, Spoil, Put. -/
import Derived.Test.YtjholgfaipfmbaaRd1
set_option linter.unusedVariables false
set_option linter.unusedSimpArgs false
namespace Go.Proofs.Ytjholgfaipfmbaa
open Go.RowKit Go.Proofs.YtjholgfaipfmbaaW.PrintWords Go.Proofs.YtjholgfaipfmbaaW.PrintLast
section
variable {w0 W : World} {F : Nat → Prop} {L : List Res} {vs vb vp : Value} {R : Rk}
/-- A row of scalars that isn't empty, as a block; and back. -/
theorem sc_blk {α : Type} {enc : α → Value} {h1 : ∀ x, (enc x).oneCell' = true} {hE : (Kd.scalar enc h1).E = []} {w : World} {e : Nat} {v : Value} {xs : List α} (h : (row (Kd.scalar enc h1) hE e v xs).holds w) (hn : xs ≠ []) :
    ∃ g c sp, v = .slice (some ⟨g, 0, none⟩) xs.length c ∧ (blk g (xs.map enc ++ sp) e).holds w ∧ xs.length ≤ c ∧ c ≤ maxLen ∧ (xs.map enc ++ sp).length = c := by
  have hpos : 0 < xs.length := by
    cases xs with
    | nil => exact absurd rfl hn
    | cons => simp
  have ho := Kd.own_of_R (row_own h)
  rcases ho.2 with ⟨-, h0⟩ | ⟨g', cap', cur, rfl, hge, hg', hnc, hcm, hcs, htake⟩
  · omega
  · have e1 : xs.map enc = cur.toList.take (xs.length * 1) := by rw [htake]; rfl
    refine ⟨g', cap', cur.toList.drop (xs.length * 1), rfl, ?_, hnc, hcm, ?_⟩
    · rw [e1, List.take_append_drop]
      show w.heap[g']? = _
      simpa using hg'
    · rw [e1, List.take_append_drop, Array.length_toList, hcs, Nat.mul_one]
theorem blk_sc {α : Type} {enc : α → Value} {h1 : ∀ x, (enc x).oneCell' = true} {hE : (Kd.scalar enc h1).E = []} {w : World} {e g c : Nat} {xs : List α} {sp : List Value} (h : (blk g (xs.map enc ++ sp) e).holds w) (hc : xs.length ≤ c) (hm : c ≤ maxLen) (hl : (xs.map enc ++ sp).length = c) :
    (row (Kd.scalar enc h1) hE e (.slice (some ⟨g, 0, none⟩) xs.length c) xs).holds w := by
  refine rowOf_ (base := 0) (ok := fun _ => True) (Kd.R_of_own (h1 := h1) (base := 0) ⟨by simp [encs], .inr ⟨g, c, (xs.map enc ++ sp).toArray, rfl, Nat.zero_le _, h, hc, hm, by rw [List.size_toArray, hl, Nat.mul_one], ?_⟩⟩ (fun _ _ => trivial))
  show (xs.map enc ++ sp).take (xs.length * 1) = xs.map enc
  exact List.take_left' (by simp)
def Rk.cut (R : Rk) (n : Int) : Rk := { R with counted := decide (n ≥ 0), left := n }
def Rk.pageE (R : Rk) (i : Int) : Int := if R.there i = true then 0 else 41
def Rk.spoil (R : Rk) (i : Int) (b : Bool) : Rk := if R.there i = true then { R with bad := R.bad.set i.toNat b } else R

set_option maxRecDepth 10000 in
theorem rkCut_any (HS : St w0 F W (rk vs vb vp R L)) (n : Int) : Calls Try.prog 25 #[.agg ([vs, vb, vp, .bool R.counted, .int .i64 R.left, .bool R.down] : List Value).toArray, .int .i64 n] W fun e w' => e = .returned (rkV vs vb vp (R.cut n)) ∧ St w0 F w' (rk vs vb vp (R.cut n) L) := by
  refine c_enter Try.func25 rfl 11 rfl [.agg ([vs, vb, vp, .bool R.counted, .int .i64 R.left, .bool R.down] : List Value).toArray, .int .i64 n, undef, undef, undef, undef, undef, undef, undef, undef, undef] rfl ?_
  refine wp_seq_k (fun K1 hK2 => ?_)
  refine c_region (fun ops4 hops3 => ?_)
  clear hops3
  refine St.wBox HS (cs := [vs, vb, vp, .bool R.counted, .int .i64 R.left, .bool R.down]) (.agg ([vs, vb, vp, .bool R.counted, .int .i64 R.left, .bool R.down] : List Value).toArray) rfl rfl ?_
  clear HS
  intro g5 w6 hg7 HS
  refine St.wAlloc HS (cs := [.slice none 0 0, .slice none 0 0, .slice none 0 0, .bool false, .int .i64 0, .bool false]) (.agg [.slice none 0 0, .slice none 0 0, .slice none 0 0, .bool false, .int .i64 0, .bool false].toArray) (by kernel_rfl) rfl ?_
  clear HS
  intro g8 w9 hg10 HS
  refine wpList_nil ?_
  refine fr_at (l' := [.agg ([vs, vb, vp, .bool R.counted, .int .i64 R.left, .bool R.down] : List Value).toArray, .int .i64 n, .pointer (some ⟨g5, 0, none⟩), undef, .pointer (some ⟨g8, 0, none⟩), undef, undef, undef, undef, undef, undef]) rfl ?_
  refine hK2 _ _ ?_
  refine wp_seq_k (fun K11 hK12 => ?_)
  refine c_region (fun ops14 hops13 => ?_)
  clear hops13
  refine p_run (l' := _) _ (x_move (.int .i64 n) rfl rfl) rfl ?_
  refine p_run (l' := _) _ (x_cmp (k := .i64) (m := n) (n := 0) .geq (decide (n ≥ 0)) rfl rfl rfl rfl rfl) rfl ?_
  refine p_run (l' := _) _ (x_field (j := 3) _ _ rfl rfl Try.underlying51 rfl (by rfl) rfl) rfl ?_
  refine St.store (cs' := [vs, vb, vp, .bool (decide (n ≥ 0)), .int .i64 R.left, .bool R.down]) (HS.front 1 rfl) (.bool (decide (n ≥ 0))) rfl rfl rfl (by kernel_rfl) (by rfl) rfl ?_
  clear HS
  intro w15 HS
  refine wpList_nil ?_
  refine fr_at (l' := [.agg ([vs, vb, vp, .bool R.counted, .int .i64 R.left, .bool R.down] : List Value).toArray, .int .i64 n, .pointer (some ⟨g5, 0, none⟩), undef, .pointer (some ⟨g8, 0, none⟩), .int .i64 n, .bool (decide (n ≥ 0)), .pointer (some ⟨g5, 3, none⟩), undef, undef, undef]) rfl ?_
  refine hK12 _ _ ?_
  refine wp_seq_k (fun K16 hK17 => ?_)
  refine c_region (fun ops19 hops18 => ?_)
  clear hops18
  refine p_run (l' := _) _ (x_move (.int .i64 n) rfl rfl) rfl ?_
  refine p_run (l' := _) _ (x_field (j := 4) _ _ rfl rfl Try.underlying51 rfl (by rfl) rfl) rfl ?_
  refine St.store (cs' := [vs, vb, vp, .bool (decide (n ≥ 0)), .int .i64 n, .bool R.down]) HS (.int .i64 n) rfl rfl rfl (by kernel_rfl) (by rfl) rfl ?_
  clear HS
  intro w20 HS
  refine wpList_nil ?_
  refine fr_at (l' := [.agg ([vs, vb, vp, .bool R.counted, .int .i64 R.left, .bool R.down] : List Value).toArray, .int .i64 n, .pointer (some ⟨g5, 0, none⟩), undef, .pointer (some ⟨g8, 0, none⟩), .int .i64 n, .bool (decide (n ≥ 0)), .pointer (some ⟨g5, 3, none⟩), .int .i64 n, .pointer (some ⟨g5, 4, none⟩), undef]) rfl ?_
  refine hK17 _ _ ?_
  refine wp_seq_k (fun K21 hK22 => ?_)
  refine c_region (fun ops24 hops23 => ?_)
  clear hops23
  refine p_run (l' := _) _ (x_loads [vs, vb, vp, .bool (decide (n ≥ 0)), .int .i64 n, .bool R.down] 6 rfl rfl (bkCells (HS.get (.head _)) 0 _ rfl) (by rfl) (by kernel_rfl) rfl) rfl ?_
  refine St.stores (cs' := [vs, vb, vp, .bool (decide (n ≥ 0)), .int .i64 n, .bool R.down]) (HS.front 1 rfl) [vs, vb, vp, .bool (decide (n ≥ 0)), .int .i64 n, .bool R.down] 6 rfl rfl (all1 (row_one (HS.get (.tail _ (.tail _ (.head _))))) (all1 (row_one (HS.get (.tail _ (.tail _ (.tail _ (.head _)))))) (all1 (row_one (HS.get (.tail _ (.tail _ (.tail _ (.tail _ (.head _))))))) (all1 rfl (all1 rfl (all1 rfl rfl)))))) (by kernel_rfl) rfl (by simp) rfl ?_
  clear HS
  intro w25 HS
  refine wpList_nil ?_
  refine fr_at (l' := [.agg ([vs, vb, vp, .bool R.counted, .int .i64 R.left, .bool R.down] : List Value).toArray, .int .i64 n, .pointer (some ⟨g5, 0, none⟩), undef, .pointer (some ⟨g8, 0, none⟩), .int .i64 n, .bool (decide (n ≥ 0)), .pointer (some ⟨g5, 3, none⟩), .int .i64 n, .pointer (some ⟨g5, 4, none⟩), .agg ([vs, vb, vp, .bool (decide (n ≥ 0)), .int .i64 n, .bool R.down] : List Value).toArray]) rfl ?_
  refine hK22 _ _ ?_
  refine wp_ret ?_
  try simp only [Exit.inBlock, Exit.then]
  refine c_ret (.agg ([vs, vb, vp, .bool (decide (n ≥ 0)), .int .i64 n, .bool R.down] : List Value).toArray) (r_c rfl rfl (run_loadVar_aggn (by rfl) [vs, vb, vp, .bool (decide (n ≥ 0)), .int .i64 n, .bool R.down] 6 (by kernel_rfl) rfl (bkCells (HS.get (.head _)) 0 _ (whole _)))) ?_
  exact ⟨rfl, (((HS.drop.drop.front 2 rfl).front 2 rfl).front 2 rfl)⟩

theorem sc_set {xs : List Bool} {sp : List Value} {j : Nat} (hj : j < xs.length) (b : Bool) (q : Nat) (hq : q = j * 1 := by rfl) : (xs.map Value.bool ++ sp).set q (.bool b) = (xs.set j b).map Value.bool ++ sp := by
  subst hq
  rw [Nat.mul_one, List.set_append, if_pos (by rw [List.length_map]; exact hj), List.map_set]

set_option maxRecDepth 10000 in
theorem rkSpoil_any (HS : St w0 F W (rk vs vb vp R L)) (hb : R.bad.length = R.stable.length) (hsl : R.stable.length ≤ 244) (i : Int) (b : Bool) : Calls Try.prog 27 #[.agg ([vs, vb, vp, .bool R.counted, .int .i64 R.left, .bool R.down] : List Value).toArray, .int .i64 i, .bool b] W fun e w' => ∃ vb', e = .returned (.tuple #[rkV vs vb' vp (R.spoil i b), .int .i64 (R.pageE i)]) ∧ St w0 F w' (rk vs vb' vp (R.spoil i b) L) := by
  rcases ht : R.there i with _ | _
  · skip
    refine c_enter Try.func27 rfl 25 rfl [.agg ([vs, vb, vp, .bool R.counted, .int .i64 R.left, .bool R.down] : List Value).toArray, .int .i64 i, .bool b, undef, undef, undef, undef, undef, undef, undef, undef, undef, undef, undef, undef, undef, undef, undef, undef, undef, undef, undef, undef, undef, undef] rfl ?_
    refine wp_seq_k (fun K1 hK2 => ?_)
    refine c_region (fun ops4 hops3 => ?_)
    clear hops3
    refine St.wBox HS (cs := [vs, vb, vp, .bool R.counted, .int .i64 R.left, .bool R.down]) (.agg ([vs, vb, vp, .bool R.counted, .int .i64 R.left, .bool R.down] : List Value).toArray) rfl rfl ?_
    clear HS
    intro g5 w6 hg7 HS
    refine St.wAlloc HS (cs := [.slice none 0 0, .slice none 0 0, .slice none 0 0, .bool false, .int .i64 0, .bool false]) (.agg [.slice none 0 0, .slice none 0 0, .slice none 0 0, .bool false, .int .i64 0, .bool false].toArray) (by kernel_rfl) rfl ?_
    clear HS
    intro g8 w9 hg10 HS
    refine p_run (l' := _) _ (x_assign (.int .i64 0) rfl rfl) rfl ?_
    refine wpList_nil ?_
    refine fr_at (l' := [.agg ([vs, vb, vp, .bool R.counted, .int .i64 R.left, .bool R.down] : List Value).toArray, .int .i64 i, .bool b, .pointer (some ⟨g5, 0, none⟩), undef, undef, .pointer (some ⟨g8, 0, none⟩), .int .i64 0, undef, undef, undef, undef, undef, undef, undef, undef, undef, undef, undef, undef, undef, undef, undef, undef, undef]) rfl ?_
    refine hK2 _ _ ?_
    refine wp_seq_k (fun K11 hK12 => ?_)
    refine wp_seq_k (fun K13 hK14 => ?_)
    refine c_region (fun ops16 hops15 => ?_)
    clear hops15
    refine p_run (l' := _) _ (x_loads [vs, vb, vp, .bool R.counted, .int .i64 R.left, .bool R.down] 6 rfl rfl (bkCells (HS.get (.tail _ (.head _))) 0 _ rfl) (by rfl) (by kernel_rfl) rfl) rfl ?_
    refine p_run (l' := _) _ (x_move (.int .i64 i) rfl rfl) rfl ?_
    refine w_call [.agg ([vs, vb, vp, .bool R.counted, .int .i64 R.left, .bool R.down] : List Value).toArray, .int .i64 i] Try.func35 (by kernel_rfl) (by rfl) rfl ?_
    replace HS := (((HS.front 4 rfl).front 4 rfl).front 4 rfl)
    refine (rkThere_any HS _).mono ?_
    clear HS
    rintro e w17 ⟨he_, HS⟩
    rw [ht] at he_
    subst he_
    refine ⟨_, rfl, ?_⟩
    refine p_run (l' := [.agg ([vs, vb, vp, .bool R.counted, .int .i64 R.left, .bool R.down] : List Value).toArray, .int .i64 i, .bool b, .pointer (some ⟨g5, 0, none⟩), undef, undef, .pointer (some ⟨g8, 0, none⟩), .int .i64 0, undef, .agg ([vs, vb, vp, .bool R.counted, .int .i64 R.left, .bool R.down] : List Value).toArray, .int .i64 i, .bool false, .bool true, undef, undef, undef, undef, undef, undef, undef, undef, undef, undef, undef, undef]) _ (x_not false rfl rfl) rfl ?_
    refine wpList_nil ?_
    refine hK14 _ _ ?_
    refine c_true rfl ?_
    refine wp_seq_k (fun K18 hK19 => ?_)
    refine c_region (fun ops21 hops20 => ?_)
    clear hops20
    refine p_run (l' := _) _ (x_loads [vs, vb, vp, .bool R.counted, .int .i64 R.left, .bool R.down] 6 rfl rfl (bkCells (HS.get (.tail _ (.tail _ (.tail _ (.tail _ (.head _)))))) 0 _ rfl) (by rfl) (by kernel_rfl) rfl) rfl ?_
    refine St.stores (cs' := [vs, vb, vp, .bool R.counted, .int .i64 R.left, .bool R.down]) (HS.front 3 rfl) [vs, vb, vp, .bool R.counted, .int .i64 R.left, .bool R.down] 6 rfl rfl (all1 (row_one (HS.get (.head _))) (all1 (row_one (HS.get (.tail _ (.head _)))) (all1 (row_one (HS.get (.tail _ (.tail _ (.head _))))) (all1 rfl (all1 rfl (all1 rfl rfl)))))) (by kernel_rfl) rfl (by simp) rfl ?_
    clear HS
    intro w22 HS
    refine p_run (l' := _) _ (x_assign (.int .i64 41) rfl rfl) rfl ?_
    refine wpList_nil ?_
    refine fr_at (l' := [.agg ([vs, vb, vp, .bool R.counted, .int .i64 R.left, .bool R.down] : List Value).toArray, .int .i64 i, .bool b, .pointer (some ⟨g5, 0, none⟩), undef, undef, .pointer (some ⟨g8, 0, none⟩), .int .i64 41, undef, .agg ([vs, vb, vp, .bool R.counted, .int .i64 R.left, .bool R.down] : List Value).toArray, .int .i64 i, .bool false, .bool true, .agg ([vs, vb, vp, .bool R.counted, .int .i64 R.left, .bool R.down] : List Value).toArray, undef, undef, undef, undef, undef, undef, undef, undef, undef, undef, undef]) rfl ?_
    refine hK19 _ _ ?_
    refine wp_ret ?_
    try simp only [Exit.inBlock, Exit.then]
    refine c_ret (.tuple [.agg ([vs, vb, vp, .bool R.counted, .int .i64 R.left, .bool R.down] : List Value).toArray, .int .i64 41].toArray) (r_ct rfl rfl (run_loadVar_aggn (by rfl) [vs, vb, vp, .bool R.counted, .int .i64 R.left, .bool R.down] 6 (by kernel_rfl) rfl (bkCells (HS.get (.head _)) 0 _ (whole _))) rfl) ?_
    have e1 : R.spoil i b = R := if_neg (by rw [ht]; decide)
    have e2 : R.pageE i = 41 := if_neg (by rw [ht]; decide)
    rw [e1, e2]
    exact ⟨vb, rfl, ((((HS.drop.front 3 rfl).drop.front 2 rfl).front 2 rfl).front 2 rfl)⟩
  · skip
    have hi2 := of_decide_eq_true ht
    obtain ⟨i, rfl⟩ := Int.eq_ofNat_of_zero_le hi2.1
    have hib : i < R.bad.length := by omega
    have hne : R.bad ≠ [] := fun h => by rw [h] at hib; simp at hib
    obtain ⟨Ab, cb, hvb, hcb, -⟩ := row_reads (HS.get (.tail _ (.head _)))
    subst hvb
    refine c_enter Try.func27 rfl 25 rfl [.agg ([vs, .slice Ab R.bad.length cb, vp, .bool R.counted, .int .i64 R.left, .bool R.down] : List Value).toArray, .int .i64 (i : Int), .bool b, undef, undef, undef, undef, undef, undef, undef, undef, undef, undef, undef, undef, undef, undef, undef, undef, undef, undef, undef, undef, undef, undef] rfl ?_
    refine wp_seq_k (fun K1 hK2 => ?_)
    refine c_region (fun ops4 hops3 => ?_)
    clear hops3
    refine St.wBox HS (cs := [vs, .slice Ab R.bad.length cb, vp, .bool R.counted, .int .i64 R.left, .bool R.down]) (.agg ([vs, .slice Ab R.bad.length cb, vp, .bool R.counted, .int .i64 R.left, .bool R.down] : List Value).toArray) rfl rfl ?_
    clear HS
    intro g5 w6 hg7 HS
    refine St.wAlloc HS (cs := [.slice none 0 0, .slice none 0 0, .slice none 0 0, .bool false, .int .i64 0, .bool false]) (.agg [.slice none 0 0, .slice none 0 0, .slice none 0 0, .bool false, .int .i64 0, .bool false].toArray) (by kernel_rfl) rfl ?_
    clear HS
    intro g8 w9 hg10 HS
    refine p_run (l' := _) _ (x_assign (.int .i64 0) rfl rfl) rfl ?_
    refine wpList_nil ?_
    refine fr_at (l' := [.agg ([vs, .slice Ab R.bad.length cb, vp, .bool R.counted, .int .i64 R.left, .bool R.down] : List Value).toArray, .int .i64 (i : Int), .bool b, .pointer (some ⟨g5, 0, none⟩), undef, undef, .pointer (some ⟨g8, 0, none⟩), .int .i64 0, undef, undef, undef, undef, undef, undef, undef, undef, undef, undef, undef, undef, undef, undef, undef, undef, undef]) rfl ?_
    refine hK2 _ _ ?_
    refine wp_seq_k (fun K11 hK12 => ?_)
    refine wp_seq_k (fun K13 hK14 => ?_)
    refine c_region (fun ops16 hops15 => ?_)
    clear hops15
    refine p_run (l' := _) _ (x_loads [vs, .slice Ab R.bad.length cb, vp, .bool R.counted, .int .i64 R.left, .bool R.down] 6 rfl rfl (bkCells (HS.get (.tail _ (.head _))) 0 _ rfl) (by rfl) (by kernel_rfl) rfl) rfl ?_
    refine p_run (l' := _) _ (x_move (.int .i64 (i : Int)) rfl rfl) rfl ?_
    refine w_call [.agg ([vs, .slice Ab R.bad.length cb, vp, .bool R.counted, .int .i64 R.left, .bool R.down] : List Value).toArray, .int .i64 (i : Int)] Try.func35 (by kernel_rfl) (by rfl) rfl ?_
    replace HS := (((HS.front 4 rfl).front 4 rfl).front 4 rfl)
    refine (rkThere_any HS _).mono ?_
    clear HS
    rintro e w17 ⟨he_, HS⟩
    rw [ht] at he_
    subst he_
    refine ⟨_, rfl, ?_⟩
    refine p_run (l' := [.agg ([vs, .slice Ab R.bad.length cb, vp, .bool R.counted, .int .i64 R.left, .bool R.down] : List Value).toArray, .int .i64 (i : Int), .bool b, .pointer (some ⟨g5, 0, none⟩), undef, undef, .pointer (some ⟨g8, 0, none⟩), .int .i64 0, undef, .agg ([vs, .slice Ab R.bad.length cb, vp, .bool R.counted, .int .i64 R.left, .bool R.down] : List Value).toArray, .int .i64 (i : Int), .bool true, .bool false, undef, undef, undef, undef, undef, undef, undef, undef, undef, undef, undef, undef]) _ (x_not true rfl rfl) rfl ?_
    refine wpList_nil ?_
    refine hK14 _ _ ?_
    refine c_false rfl ?_
    refine wp_skip ?_
    refine hK12 _ _ ?_
    refine wp_seq_k (fun K18 hK19 => ?_)
    refine c_region (fun ops21 hops20 => ?_)
    clear hops20
    refine St.wLit0 HS Kd.bool rfl 1 (.bool false) Try.underlying22 (by kernel_rfl) ?_
    clear HS
    intro v22 w23 HS
    refine p_run (l' := _) _ (x_field (j := 1) _ _ rfl rfl Try.underlying51 rfl (by rfl) rfl) rfl ?_
    refine p_run (l' := _) _ (x_load (.slice Ab R.bad.length cb) rfl rfl (bkCell (HS.get (.tail _ (.tail _ (.tail _ (.tail _ (.tail _ (.head _))))))) 1 _ rfl) (by rfl)) rfl ?_
    refine St.wAppend HS ((.bool false)) 1 Try.underlying22 (by kernel_rfl) rfl (by decide) (by decide) R.bad _ _ _ rfl rfl (row_C (HS.get (.tail _ (.tail _ (.head _))))).2.2 (fun _ _ h => h) (by simp; omega) ?_
    clear HS
    intro v24 w25 HS
    refine fr_to (l' := [.agg ([vs, .slice Ab R.bad.length cb, vp, .bool R.counted, .int .i64 R.left, .bool R.down] : List Value).toArray, .int .i64 (i : Int), .bool b, .pointer (some ⟨g5, 0, none⟩), undef, undef, .pointer (some ⟨g8, 0, none⟩), .int .i64 0, undef, .agg ([vs, .slice Ab R.bad.length cb, vp, .bool R.counted, .int .i64 R.left, .bool R.down] : List Value).toArray, .int .i64 (i : Int), .bool true, .bool false, undef, v22, .pointer (some ⟨g5, 1, none⟩), .slice Ab R.bad.length cb, v24, undef, undef, undef, undef, undef, undef, undef]) rfl ?_
    refine p_run (l' := _) _ (x_assign (v24) rfl rfl) rfl ?_
    refine wpList_nil ?_
    refine fr_at (l' := [.agg ([vs, .slice Ab R.bad.length cb, vp, .bool R.counted, .int .i64 R.left, .bool R.down] : List Value).toArray, .int .i64 (i : Int), .bool b, .pointer (some ⟨g5, 0, none⟩), undef, undef, .pointer (some ⟨g8, 0, none⟩), .int .i64 0, v24, .agg ([vs, .slice Ab R.bad.length cb, vp, .bool R.counted, .int .i64 R.left, .bool R.down] : List Value).toArray, .int .i64 (i : Int), .bool true, .bool false, undef, v22, .pointer (some ⟨g5, 1, none⟩), .slice Ab R.bad.length cb, v24, undef, undef, undef, undef, undef, undef, undef]) rfl ?_
    refine hK19 _ _ ?_
    refine wp_seq_k (fun K26 hK27 => ?_)
    skip
    · skip
      rw [List.nil_append] at HS
      obtain ⟨g, c2, sp, hv2, hb, hc1, hc2, hc3⟩ := sc_blk HS.hs.head hne
      subst hv2
      replace HS := HS.alter hb (fun b h => (congrArg some (show b = g from h)).symm)
      refine c_region (fun ops29 hops28 => ?_)
      clear hops28
      refine p_run (l' := _) _ (x_move (.slice (some ⟨g, 0, none⟩) R.bad.length c2) rfl rfl) rfl ?_
      refine p_run (l' := _) _ (x_move (.int .i64 (i : Int)) rfl rfl) rfl ?_
      refine p_run (l' := _) _ (x_move (.bool b) rfl rfl) rfl ?_
      refine p_run (l' := [.agg ([vs, .slice Ab R.bad.length cb, vp, .bool R.counted, .int .i64 R.left, .bool R.down] : List Value).toArray, .int .i64 (i : Int), .bool b, .pointer (some ⟨g5, 0, none⟩), undef, undef, .pointer (some ⟨g8, 0, none⟩), .int .i64 0, .slice (some ⟨g, 0, none⟩) R.bad.length c2, .agg ([vs, .slice Ab R.bad.length cb, vp, .bool R.counted, .int .i64 R.left, .bool R.down] : List Value).toArray, .int .i64 (i : Int), .bool true, .bool false, undef, v22, .pointer (some ⟨g5, 1, none⟩), .slice Ab R.bad.length cb, .slice (some ⟨g, 0, none⟩) R.bad.length c2, .slice (some ⟨g, 0, none⟩) R.bad.length c2, .int .i64 (i : Int), .bool b, .pointer (some ⟨g, i * 1, none⟩), undef, undef, undef]) (.pointer (some ⟨g, i * 1, none⟩)) ((x_index (A := ⟨g, 0, none⟩) (j := i * 1) (sz := 1) rfl rfl rfl Try.underlying22 (by kernel_rfl) (by omega) rfl).trans (by rw [add_mk, Nat.zero_add])) rfl ?_
      refine St.store (cs' := ((R.bad.set i b).map Value.bool ++ sp)) HS (.bool b) rfl rfl rfl (by kernel_rfl) (decide_eq_true (by rw [hc3]; omega)) (sc_set (by omega) _ _) ?_
      clear HS
      intro w30 HS
      refine wpList_nil ?_
      refine hK27 _ _ ?_
      refine wp_seq_k (fun K31 hK32 => ?_)
      refine c_region (fun ops34 hops33 => ?_)
      clear hops33
      refine p_run (l' := _) _ (x_move (.slice (some ⟨g, 0, none⟩) R.bad.length c2) rfl rfl) rfl ?_
      refine p_run (l' := _) _ (x_field (j := 1) _ _ rfl rfl Try.underlying51 rfl (by rfl) rfl) rfl ?_
      refine St.store (cs' := [vs, .slice (some ⟨g, 0, none⟩) R.bad.length c2, vp, .bool R.counted, .int .i64 R.left, .bool R.down]) (HS.front 5 rfl) (.slice (some ⟨g, 0, none⟩) R.bad.length c2) rfl rfl rfl (by kernel_rfl) (by rfl) rfl ?_
      clear HS
      intro w35 HS
      refine wpList_nil ?_
      refine fr_at (l' := [.agg ([vs, .slice Ab R.bad.length cb, vp, .bool R.counted, .int .i64 R.left, .bool R.down] : List Value).toArray, .int .i64 (i : Int), .bool b, .pointer (some ⟨g5, 0, none⟩), undef, undef, .pointer (some ⟨g8, 0, none⟩), .int .i64 0, .slice (some ⟨g, 0, none⟩) R.bad.length c2, .agg ([vs, .slice Ab R.bad.length cb, vp, .bool R.counted, .int .i64 R.left, .bool R.down] : List Value).toArray, .int .i64 (i : Int), .bool true, .bool false, undef, v22, .pointer (some ⟨g5, 1, none⟩), .slice Ab R.bad.length cb, .slice (some ⟨g, 0, none⟩) R.bad.length c2, .slice (some ⟨g, 0, none⟩) R.bad.length c2, .int .i64 (i : Int), .bool b, .pointer (some ⟨g, i * 1, none⟩), .slice (some ⟨g, 0, none⟩) R.bad.length c2, .pointer (some ⟨g5, 1, none⟩), undef]) rfl ?_
      refine hK32 _ _ ?_
      refine wp_seq_k (fun K36 hK37 => ?_)
      refine c_region (fun ops39 hops38 => ?_)
      clear hops38
      refine p_run (l' := _) _ (x_loads [vs, .slice (some ⟨g, 0, none⟩) R.bad.length c2, vp, .bool R.counted, .int .i64 R.left, .bool R.down] 6 rfl rfl (bkCells (HS.get (.head _)) 0 _ rfl) (by rfl) (by kernel_rfl) rfl) rfl ?_
      refine St.stores (cs' := [vs, .slice (some ⟨g, 0, none⟩) R.bad.length c2, vp, .bool R.counted, .int .i64 R.left, .bool R.down]) (HS.front 5 rfl) [vs, .slice (some ⟨g, 0, none⟩) R.bad.length c2, vp, .bool R.counted, .int .i64 R.left, .bool R.down] 6 rfl rfl (all1 (row_one (HS.get (.tail _ (.tail _ (.head _))))) (all1 rfl (all1 (row_one (HS.get (.tail _ (.tail _ (.tail _ (.tail _ (.head _))))))) (all1 rfl (all1 rfl (all1 rfl rfl)))))) (by kernel_rfl) rfl (by simp) rfl ?_
      clear HS
      intro w40 HS
      refine p_run (l' := _) _ (x_assign (.int .i64 0) rfl rfl) rfl ?_
      refine wpList_nil ?_
      refine fr_at (l' := [.agg ([vs, .slice Ab R.bad.length cb, vp, .bool R.counted, .int .i64 R.left, .bool R.down] : List Value).toArray, .int .i64 (i : Int), .bool b, .pointer (some ⟨g5, 0, none⟩), undef, undef, .pointer (some ⟨g8, 0, none⟩), .int .i64 0, .slice (some ⟨g, 0, none⟩) R.bad.length c2, .agg ([vs, .slice Ab R.bad.length cb, vp, .bool R.counted, .int .i64 R.left, .bool R.down] : List Value).toArray, .int .i64 (i : Int), .bool true, .bool false, undef, v22, .pointer (some ⟨g5, 1, none⟩), .slice Ab R.bad.length cb, .slice (some ⟨g, 0, none⟩) R.bad.length c2, .slice (some ⟨g, 0, none⟩) R.bad.length c2, .int .i64 (i : Int), .bool b, .pointer (some ⟨g, i * 1, none⟩), .slice (some ⟨g, 0, none⟩) R.bad.length c2, .pointer (some ⟨g5, 1, none⟩), .agg ([vs, .slice (some ⟨g, 0, none⟩) R.bad.length c2, vp, .bool R.counted, .int .i64 R.left, .bool R.down] : List Value).toArray]) rfl ?_
      refine hK37 _ _ ?_
      refine wp_ret ?_
      try simp only [Exit.inBlock, Exit.then]
      refine c_ret (.tuple [.agg ([vs, .slice (some ⟨g, 0, none⟩) R.bad.length c2, vp, .bool R.counted, .int .i64 R.left, .bool R.down] : List Value).toArray, .int .i64 0].toArray) (r_ct rfl rfl (run_loadVar_aggn (by rfl) [vs, .slice (some ⟨g, 0, none⟩) R.bad.length c2, vp, .bool R.counted, .int .i64 R.left, .bool R.down] 6 (by kernel_rfl) rfl (bkCells (HS.get (.head _)) 0 _ (whole _))) rfl) ?_
      replace HS := (HS.front 2 rfl)
      replace HS := HS.alter (blk_sc (h1 := fun _ => rfl) (hE := rfl) HS.hs.head (by rw [List.length_set]; exact hc1) hc2 (by rw [← hc3]; simp)) (fun b h => (Option.some.inj (show some g = some b from h)).symm)
      rw [List.length_set] at HS
      have e1 : R.spoil (i : Int) b = { R with bad := R.bad.set i b } := if_pos ht
      have e2 : R.pageE (i : Int) = 0 := if_pos ht
      rw [e1, e2]
      exact ⟨_, rfl, ((((((HS.front 1 rfl).drop.front 1 rfl).drop.front 2 rfl).drop.front 2 rfl).front 1 rfl).front 2 rfl)⟩
end
end Go.Proofs.Ytjholgfaipfmbaa
