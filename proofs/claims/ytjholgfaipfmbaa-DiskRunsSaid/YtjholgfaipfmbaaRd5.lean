/- The document's disk: settle. -/
import Derived.Test.YtjholgfaipfmbaaRd4
set_option linter.unusedVariables false
set_option linter.unusedSimpArgs false
namespace Go.Proofs.Ytjholgfaipfmbaa
open Go.RowKit Go.Proofs.YtjholgfaipfmbaaW.PrintWords Go.Proofs.YtjholgfaipfmbaaW.PrintLast
section
variable {w0 W : World} {F : Nat → Prop} {L : List Res} {vs vb vp : Value} {R : Rk}
section
variable {w : World} {e g i c : Nat} {v : Value} {T : List (List Int)} {p q : List Int} {sp : List Value}
theorem reps_pg : ∀ (T : List (List Int)) (inner : List Value), Reps pgP 256 T inner → inner = pgs T ∧ ∀ p ∈ T, p.length = 256
  | [], inner, h => ⟨List.eq_nil_of_length_eq_zero (by simpa using h.1), fun p hp => by cases hp⟩
  | p :: T, inner, h => by
    have h0 := h.2 0 p rfl
    rw [Nat.zero_mul, List.drop_zero] at h0
    have ht : Reps pgP 256 T (inner.drop 256) := ⟨by rw [List.length_drop, h.1, List.length_cons]; omega, fun j q hq => by
      have := h.2 (j + 1) q (by simpa using hq)
      rw [List.drop_drop, show 256 + j * 256 = (j + 1) * 256 by omega]
      exact this⟩
    obtain ⟨e1, e2⟩ := reps_pg T _ ht
    refine ⟨?_, fun q hq => ?_⟩
    · rw [← List.take_append_drop 256 inner, h0.1, e1]
      rfl
    · rcases List.mem_cons.1 hq with rfl | hq
      · exact h0.2
      · exact e2 q hq
theorem row_pg {hE : kPg.E = []} (h : (row kPg hE e v T).holds w) (hn : T ≠ []) : ∃ g c sp, v = .slice (some ⟨g, 0, none⟩) T.length c ∧ (blk g (pgs T ++ sp) e).holds w ∧ T.length ≤ c ∧ c ≤ maxLen ∧ (pgs T ++ sp).length = c * 256 := by
  have hpos : 0 < T.length := by
    cases T with
    | nil => exact absurd rfl hn
    | cons => simp
  obtain ⟨h0, inner, ho, hr⟩ := h
  obtain ⟨e1, e2⟩ := reps_pg T inner hr
  subst e1
  rcases ho.2 with ⟨-, h3⟩ | ⟨g', cap', cur, h2, hge, hg', hnc, hcm, hcs, htake⟩
  · omega
  · have e3 : pgs T ++ cur.toList.drop (T.length * 256) = cur.toList := by
      have : cur.toList.take (T.length * 256) = pgs T := htake
      rw [← this, List.take_append_drop]
    refine ⟨g', cap', cur.toList.drop (T.length * 256), h2, ?_, hnc, hcm, ?_⟩
    · rw [e3]; show w.heap[g']? = _; simpa using hg'
    · rw [e3, Array.length_toList, hcs]; rfl
theorem pg_row {hE : kPg.E = []} (h : (blk g (pgs T ++ sp) e).holds w) (h1 : T.length ≤ c) (h2 : c ≤ maxLen) (h3 : (pgs T ++ sp).length = c * 256) (h4 : ∀ p ∈ T, p.length = 256) : (row kPg hE e (.slice (some ⟨g, 0, none⟩) T.length c) T).holds w := by
  refine rowOf_ (base := 0) (ok := fun _ => True) ⟨fun _ _ => trivial, pgs T, ⟨pgs_length T h4, .inr ⟨g, c, (pgs T ++ sp).toArray, rfl, Nat.zero_le _, h, h1, h2, by rw [List.size_toArray, h3]; rfl, ?_⟩⟩, ⟨pgs_length T h4, fun j p hj => ⟨pgs_at T j p h4 hj, h4 p (List.mem_of_getElem? hj)⟩⟩⟩
  show (pgs T ++ sp).take (T.length * 256) = pgs T
  exact List.take_left' (pgs_length T h4)
theorem pg_at (hT : ∀ p ∈ T, p.length = 256) (hp : T[i]? = some p) : ((pgs T ++ sp).drop (i * 256)).take (nums .u8 p).length = nums .u8 p := by
  have hi := (List.getElem?_eq_some_iff.1 hp).1
  have hl := pgs_length T hT
  rw [nums_length, hT p (List.mem_of_getElem? hp), List.drop_append_of_le_length (by omega), List.take_append_of_le_length (by rw [List.length_drop]; omega)]
  exact pgs_at T i p hT hp
theorem pg_put (hT : ∀ p ∈ T, p.length = 256) (hp : T[i]? = some p) (hq : q.length = 256) : lay (pgs T ++ sp) (i * 256) (nums .u8 q) = pgs (T.set i q) ++ sp := by
  have hi := (List.getElem?_eq_some_iff.1 hp).1
  have hl := pgs_length T hT
  have hpl := hT p (List.mem_of_getElem? hp)
  have h1 := pgs_lay T i p q 0 q hT hp (by omega) (by rw [hq, List.drop_of_length_le (by omega), List.take_zero]; simp)
  rw [Nat.add_zero] at h1
  rw [← h1]
  unfold lay
  rw [nums_length, hq, List.take_append_of_le_length (by omega), List.drop_append_of_le_length (by omega)]
  simp only [List.append_assoc]
end
theorem settleL_snoc (m : Nat → Int) (x : Int × List Int) : ∀ (l : List (Int × List Int)) (k : Nat) (T : List (List Int)), settleL m k (l ++ [x]) T = (settleL m k l T).set x.1.toNat (mixS (m (k + l.length)) ((settleL m k l T).getD x.1.toNat zpg) x.2 8)
  | [], k, T => by simp [settleL]
  | y :: l, k, T => by
    have := settleL_snoc m x l (k + 1) (T.set y.1.toNat (mixS (m k) (T.getD y.1.toNat zpg) y.2 8))
    rw [show k + 1 + l.length = k + (y :: l).length by simp; omega] at this
    exact this
theorem mix_none (o x : List Int) : ∀ q, mixS 0 o x q = o
  | 0 => rfl
  | q + 1 => by
    unfold mixS
    rw [if_neg (by rw [Int.zero_ediv]; decide)]
    exact mix_none o x q
def stN (keep : List Int) (R : Rk) (k : Nat) : List (List Int) := settleL (maskOf keep) 0 (R.pending.take k) R.stable
def Rk.settle (R : Rk) (keep : List Int) : Rk := { R with stable := settleL (maskOf keep) 0 R.pending R.stable, pending := [] }

section
variable {keep : List Int} {k : Nat} {x : Int × List Int}
theorem rk_none (hne : R.stable = []) (hpd : ∀ x ∈ R.pending, 0 ≤ x.1 ∧ x.1 < R.stable.length ∧ x.2.length = 256) : R.pending = [] := by
  cases h : R.pending with
  | nil => rfl
  | cons x l =>
    have h1 := hpd x (by rw [h]; exact List.mem_cons_self)
    rw [hne] at h1
    simp at h1
    omega
theorem st_zero : stN keep R 0 = R.stable := by unfold stN; rw [List.take_zero]; rfl
theorem st_all : stN keep R R.pending.length = (R.settle keep).stable := by unfold stN Rk.settle; rw [List.take_length]
theorem st_ok (hT : ∀ p ∈ R.stable, p.length = 256) (hpd : ∀ x ∈ R.pending, 0 ≤ x.1 ∧ x.1 < R.stable.length ∧ x.2.length = 256) (k : Nat) : (∀ p ∈ stN keep R k, p.length = 256) ∧ (stN keep R k).length = R.stable.length := settleL_ok _ _ _ _ hT (fun x hx => hpd x (List.mem_of_mem_take hx))
theorem st_step (hx : R.pending[k]? = some x) : stN keep R (k + 1) = (stN keep R k).set x.1.toNat (mixS (maskOf keep k) ((stN keep R k).getD x.1.toNat zpg) x.2 8) := by
  obtain ⟨hk, rfl⟩ := List.getElem?_eq_some_iff.1 hx
  unfold stN
  rw [List.take_succ_eq_append_getElem hk, settleL_snoc, List.length_take, Nat.zero_add, Nat.min_eq_left (by omega)]
theorem st_skip (hx : R.pending[k]? = some x) (hk : keep.length ≤ k) (hi : x.1.toNat < (stN keep R k).length) : stN keep R (k + 1) = stN keep R k := by
  rw [st_step hx, show maskOf keep k = 0 from by unfold maskOf; rw [List.getD_eq_getElem?_getD, List.getElem?_eq_none hk]; rfl, mix_none, List.getD_eq_getElem?_getD, List.getElem?_eq_getElem hi]
  exact List.set_getElem_self hi
end

set_option maxRecDepth 10000 in
set_option maxHeartbeats 2000000 in
theorem rkSettle_any (HS : St w0 F W (rk vs vb vp R L)) (hT : ∀ p ∈ R.stable, p.length = 256) (hpd : ∀ x ∈ R.pending, 0 ≤ x.1 ∧ x.1 < R.stable.length ∧ x.2.length = 256) (hpn : R.pending.length ≤ 1000) (hsl : R.stable.length ≤ 244) {A : Option Addr} {c : Nat} (keep : List Int) (hk0 : ∀ z ∈ keep, 0 ≤ z ∧ z < 256) (hkeep : ∀ w X, St w0 F w (X ++ L) → (Kd.int .u8).C w A keep.length keep) : Calls Try.prog 37 #[.agg ([vs, vb, vp, .bool R.counted, .int .i64 R.left, .bool R.down] : List Value).toArray, .slice A keep.length c] W fun e w' => ∃ vs', e = .returned (rkV vs' vb (.slice none 0 0) (R.settle keep)) ∧ St w0 F w' (rk vs' vb (.slice none 0 0) (R.settle keep) L) := by
  obtain ⟨As, cs, hvs, hcs, -⟩ := row_reads (HS.get (.head _))
  subst hvs
  obtain ⟨Ap, cp, hvp, hcp, -⟩ := row_reads (HS.get (.tail _ (.tail _ (.head _))))
  subst hvp
  by_cases hne : R.stable = []
  · skip
    have hpe := rk_none hne hpd
    refine c_enter Try.func37 rfl 45 rfl [.agg ([.slice As R.stable.length cs, vb, .slice Ap R.pending.length cp, .bool R.counted, .int .i64 R.left, .bool R.down] : List Value).toArray, .slice A keep.length c, undef, undef, undef, undef, undef, undef, undef, undef, undef, undef, undef, undef, undef, undef, undef, undef, undef, undef, undef, undef, undef, undef, undef, undef, undef, undef, undef, undef, undef, undef, undef, undef, undef, undef, undef, undef, undef, undef, undef, undef, undef, undef, undef] rfl ?_
    refine wp_seq_k (fun K1 hK2 => ?_)
    refine c_region (fun ops4 hops3 => ?_)
    clear hops3
    refine St.wBox HS (cs := [.slice As R.stable.length cs, vb, .slice Ap R.pending.length cp, .bool R.counted, .int .i64 R.left, .bool R.down]) (.agg ([.slice As R.stable.length cs, vb, .slice Ap R.pending.length cp, .bool R.counted, .int .i64 R.left, .bool R.down] : List Value).toArray) rfl rfl ?_
    clear HS
    intro g5 w6 hg7 HS
    refine St.wAlloc HS (cs := [.slice none 0 0, .slice none 0 0, .slice none 0 0, .bool false, .int .i64 0, .bool false]) (.agg [.slice none 0 0, .slice none 0 0, .slice none 0 0, .bool false, .int .i64 0, .bool false].toArray) (by kernel_rfl) rfl ?_
    clear HS
    intro g8 w9 hg10 HS
    refine wpList_nil ?_
    refine fr_at (l' := [.agg ([.slice As R.stable.length cs, vb, .slice Ap R.pending.length cp, .bool R.counted, .int .i64 R.left, .bool R.down] : List Value).toArray, .slice A keep.length c, .pointer (some ⟨g5, 0, none⟩), undef, .pointer (some ⟨g8, 0, none⟩), undef, undef, undef, undef, undef, undef, undef, undef, undef, undef, undef, undef, undef, undef, undef, undef, undef, undef, undef, undef, undef, undef, undef, undef, undef, undef, undef, undef, undef, undef, undef, undef, undef, undef, undef, undef, undef, undef, undef, undef]) rfl ?_
    refine hK2 _ _ ?_
    refine wp_seq_k (fun K11 hK12 => ?_)
    refine c_region (fun ops14 hops13 => ?_)
    clear hops13
    refine St.wLit0 HS kPg rfl 256 (.agg ((nums .u8 zpg)).toArray) Try.underlying48 (by kernel_rfl) ?_
    clear HS
    intro v15 w16 HS
    refine p_run (l' := _) _ (x_field (j := 0) _ _ rfl rfl Try.underlying51 rfl (by rfl) rfl) rfl ?_
    refine p_run (l' := _) _ (x_load (.slice As R.stable.length cs) rfl rfl (bkCell (HS.get (.tail _ (.tail _ (.head _)))) 0 _ rfl) (by rfl)) rfl ?_
    refine St.wAppend HS ((.agg (nums .u8 zpg).toArray)) 256 Try.underlying48 (by kernel_rfl) (by kernel_rfl) (by decide) (by decide) R.stable _ _ _ rfl rfl (row_C (HS.get (.tail _ (.tail _ (.tail _ (.head _)))))).2.2 (fun _ _ h => h) (by simp; omega) ?_
    clear HS
    intro v17 w18 HS
    refine fr_to (l' := [.agg ([.slice As R.stable.length cs, vb, .slice Ap R.pending.length cp, .bool R.counted, .int .i64 R.left, .bool R.down] : List Value).toArray, .slice A keep.length c, .pointer (some ⟨g5, 0, none⟩), undef, .pointer (some ⟨g8, 0, none⟩), undef, undef, undef, v15, .pointer (some ⟨g5, 0, none⟩), .slice As R.stable.length cs, v17, undef, undef, undef, undef, undef, undef, undef, undef, undef, undef, undef, undef, undef, undef, undef, undef, undef, undef, undef, undef, undef, undef, undef, undef, undef, undef, undef, undef, undef, undef, undef, undef, undef]) rfl ?_
    refine p_run (l' := _) _ (x_assign (v17) rfl rfl) rfl ?_
    refine wpList_nil ?_
    refine fr_at (l' := [.agg ([.slice As R.stable.length cs, vb, .slice Ap R.pending.length cp, .bool R.counted, .int .i64 R.left, .bool R.down] : List Value).toArray, .slice A keep.length c, .pointer (some ⟨g5, 0, none⟩), undef, .pointer (some ⟨g8, 0, none⟩), v17, undef, undef, v15, .pointer (some ⟨g5, 0, none⟩), .slice As R.stable.length cs, v17, undef, undef, undef, undef, undef, undef, undef, undef, undef, undef, undef, undef, undef, undef, undef, undef, undef, undef, undef, undef, undef, undef, undef, undef, undef, undef, undef, undef, undef, undef, undef, undef, undef]) rfl ?_
    refine hK12 _ _ ?_
    refine wp_seq_k (fun K19 hK20 => ?_)
    refine wp_seq_k (fun K21 hK22 => ?_)
    skip
    · skip
      rw [List.nil_append] at HS
      refine c_region (fun ops24 hops23 => ?_)
      clear hops23
      refine p_run (l' := _) _ (x_field (j := 2) _ _ rfl rfl Try.underlying51 rfl (by rfl) rfl) rfl ?_
      refine p_run (l' := _) _ (x_load (.slice Ap R.pending.length cp) rfl rfl (bkCell (HS.get (.tail _ (.tail _ (.head _)))) 2 _ rfl) (by rfl)) rfl ?_
      refine p_run (l' := _) _ (x_len rfl rfl Try.underlying49) rfl ?_
      refine p_run (l' := [.agg ([.slice As R.stable.length cs, vb, .slice Ap R.pending.length cp, .bool R.counted, .int .i64 R.left, .bool R.down] : List Value).toArray, .slice A keep.length c, .pointer (some ⟨g5, 0, none⟩), undef, .pointer (some ⟨g8, 0, none⟩), v17, undef, undef, v15, .pointer (some ⟨g5, 0, none⟩), .slice As R.stable.length cs, v17, .pointer (some ⟨g5, 2, none⟩), .slice Ap R.pending.length cp, .int .i64 (R.pending.length : Int), .int .i64 0, undef, undef, undef, undef, undef, undef, undef, undef, undef, undef, undef, undef, undef, undef, undef, undef, undef, undef, undef, undef, undef, undef, undef, undef, undef, undef, undef, undef, undef]) _ (x_move (.int .i64 0) rfl rfl) rfl ?_
      refine wpList_nil ?_
      refine hK22 _ _ ?_
      refine wp_block ?_
      refine c_loop (ι := Nat) (fun i_ a_ w_ => match i_ with | k => ∃ (uq25 : Value × Value × Value × Value × Value × Value) (uq26 : Value × Value × Value × Value × Value × Value) (uq27 : Value × Value × Value × Value × Value × Value) (uq28 : Value × Value × Value × Value × Value × Value) (uq29 : Value × Value × Value), a_ = fr [.agg ([.slice As R.stable.length cs, vb, .slice Ap R.pending.length cp, .bool R.counted, .int .i64 R.left, .bool R.down] : List Value).toArray, .slice A keep.length c, .pointer (some ⟨g5, 0, none⟩), undef, .pointer (some ⟨g8, 0, none⟩), v17, uq25.1, uq25.2.1, v15, .pointer (some ⟨g5, 0, none⟩), .slice As R.stable.length cs, v17, .pointer (some ⟨g5, 2, none⟩), .slice Ap R.pending.length cp, .int .i64 (R.pending.length : Int), .int .i64 (k : Int), uq25.2.2.1, uq25.2.2.2.1, uq25.2.2.2.2.1, uq25.2.2.2.2.2, uq26.1, uq26.2.1, uq26.2.2.1, uq26.2.2.2.1, uq26.2.2.2.2.1, uq26.2.2.2.2.2, uq27.1, uq27.2.1, uq27.2.2.1, uq27.2.2.2.1, uq27.2.2.2.2.1, uq27.2.2.2.2.2, uq28.1, uq28.2.1, uq28.2.2.1, uq28.2.2.2.1, uq28.2.2.2.2.1, uq28.2.2.2.2.2, uq29.1, uq29.2.1, uq29.2.2, undef, undef, undef, undef] ∧ St w0 F w_ (row kPg rfl 31 v17 R.stable :: blk g8 [.slice none 0 0, .slice none 0 0, .slice none 0 0, .bool false, .int .i64 0, .bool false] 51 :: blk g5 [.slice As R.stable.length cs, vb, .slice Ap R.pending.length cp, .bool R.counted, .int .i64 R.left, .bool R.down] 51 :: row kPg rfl 31 (.slice As R.stable.length cs) R.stable :: row Kd.bool rfl 4 vb R.bad :: row kWr rfl 74 (.slice Ap R.pending.length cp) R.pending :: L) ∧ (k ≤ R.pending.length)) (fun i_ => match i_ with | k => R.pending.length - k) 0 ?_ ?_
      · exact ⟨(undef, undef, undef, undef, undef, undef), (undef, undef, undef, undef, undef, undef), (undef, undef, undef, undef, undef, undef), (undef, undef, undef, undef, undef, undef), (undef, undef, undef), rfl, ((((((HS.front 5 rfl).front 5 rfl).front 5 rfl).front 5 rfl).front 5 rfl).front 5 rfl), Nat.zero_le _⟩
      · clear HS
        rintro k a_ w32 ⟨uq25, uq26, uq27, uq28, uq29, rfl, HS, hI⟩ J30 hJ31
        have hkl := hI
        refine wp_seq_k (fun K33 hK34 => ?_)
        refine c_region (fun ops36 hops35 => ?_)
        clear hops35
        refine p_run (l' := _) _ (x_cmp (k := .i64) (m := (k : Int)) (n := (R.pending.length : Int)) .lss (decide ((k : Int) < (R.pending.length : Int))) rfl rfl rfl rfl rfl) rfl ?_
        refine wpList_nil ?_
        refine fr_at (l' := [.agg ([.slice As R.stable.length cs, vb, .slice Ap R.pending.length cp, .bool R.counted, .int .i64 R.left, .bool R.down] : List Value).toArray, .slice A keep.length c, .pointer (some ⟨g5, 0, none⟩), undef, .pointer (some ⟨g8, 0, none⟩), v17, uq25.1, uq25.2.1, v15, .pointer (some ⟨g5, 0, none⟩), .slice As R.stable.length cs, v17, .pointer (some ⟨g5, 2, none⟩), .slice Ap R.pending.length cp, .int .i64 (R.pending.length : Int), .int .i64 (k : Int), .bool (decide ((k : Int) < (R.pending.length : Int))), uq25.2.2.2.1, uq25.2.2.2.2.1, uq25.2.2.2.2.2, uq26.1, uq26.2.1, uq26.2.2.1, uq26.2.2.2.1, uq26.2.2.2.2.1, uq26.2.2.2.2.2, uq27.1, uq27.2.1, uq27.2.2.1, uq27.2.2.2.1, uq27.2.2.2.2.1, uq27.2.2.2.2.2, uq28.1, uq28.2.1, uq28.2.2.1, uq28.2.2.2.1, uq28.2.2.2.2.1, uq28.2.2.2.2.2, uq29.1, uq29.2.1, uq29.2.2, undef, undef, undef, undef]) rfl ?_
        refine hK34 _ _ ?_
        refine wp_seq_k (fun K37 hK38 => ?_)
        refine c_cond (t := decide ((k : Int) < (R.pending.length : Int))) rfl (fun hc39 => ?_) (fun hc39 => ?_)
        · exact absurd (of_decide_eq_true hc39) (by rw [hpe]; simp)
        · refine wp_exit ?_
          refine hK20 _ _ ?_
          refine wp_seq_k (fun K40 hK41 => ?_)
          refine c_region (fun ops43 hops42 => ?_)
          clear hops42
          refine p_run (l' := _) _ (x_move (v17) rfl rfl) rfl ?_
          refine p_run (l' := _) _ (x_field (j := 0) _ _ rfl rfl Try.underlying51 rfl (by rfl) rfl) rfl ?_
          refine St.store (cs' := [v17, vb, .slice Ap R.pending.length cp, .bool R.counted, .int .i64 R.left, .bool R.down]) (HS.front 2 rfl) (v17) rfl rfl (row_one (HS.get (.head _))) (by kernel_rfl) (by rfl) rfl ?_
          clear HS
          intro w44 HS
          refine wpList_nil ?_
          refine fr_at (l' := [.agg ([.slice As R.stable.length cs, vb, .slice Ap R.pending.length cp, .bool R.counted, .int .i64 R.left, .bool R.down] : List Value).toArray, .slice A keep.length c, .pointer (some ⟨g5, 0, none⟩), undef, .pointer (some ⟨g8, 0, none⟩), v17, uq25.1, uq25.2.1, v15, .pointer (some ⟨g5, 0, none⟩), .slice As R.stable.length cs, v17, .pointer (some ⟨g5, 2, none⟩), .slice Ap R.pending.length cp, .int .i64 (R.pending.length : Int), .int .i64 (k : Int), .bool (decide ((k : Int) < (R.pending.length : Int))), uq25.2.2.2.1, uq25.2.2.2.2.1, uq25.2.2.2.2.2, uq26.1, uq26.2.1, uq26.2.2.1, uq26.2.2.2.1, uq26.2.2.2.2.1, uq26.2.2.2.2.2, uq27.1, uq27.2.1, uq27.2.2.1, uq27.2.2.2.1, uq27.2.2.2.2.1, uq27.2.2.2.2.2, uq28.1, uq28.2.1, uq28.2.2.1, uq28.2.2.2.1, uq28.2.2.2.2.1, uq28.2.2.2.2.2, uq29.1, uq29.2.1, uq29.2.2, v17, .pointer (some ⟨g5, 0, none⟩), undef, undef]) rfl ?_
          refine hK41 _ _ ?_
          refine wp_seq_k (fun K45 hK46 => ?_)
          refine c_region (fun ops48 hops47 => ?_)
          clear hops47
          refine p_run (l' := _) _ (x_field (j := 2) _ _ rfl rfl Try.underlying51 rfl (by rfl) rfl) rfl ?_
          refine St.store (cs' := [v17, vb, .slice none 0 0, .bool R.counted, .int .i64 R.left, .bool R.down]) HS (.slice none 0 0) rfl rfl rfl (by kernel_rfl) (by rfl) rfl ?_
          clear HS
          intro w49 HS
          refine wpList_nil ?_
          refine fr_at (l' := [.agg ([.slice As R.stable.length cs, vb, .slice Ap R.pending.length cp, .bool R.counted, .int .i64 R.left, .bool R.down] : List Value).toArray, .slice A keep.length c, .pointer (some ⟨g5, 0, none⟩), undef, .pointer (some ⟨g8, 0, none⟩), v17, uq25.1, uq25.2.1, v15, .pointer (some ⟨g5, 0, none⟩), .slice As R.stable.length cs, v17, .pointer (some ⟨g5, 2, none⟩), .slice Ap R.pending.length cp, .int .i64 (R.pending.length : Int), .int .i64 (k : Int), .bool (decide ((k : Int) < (R.pending.length : Int))), uq25.2.2.2.1, uq25.2.2.2.2.1, uq25.2.2.2.2.2, uq26.1, uq26.2.1, uq26.2.2.1, uq26.2.2.2.1, uq26.2.2.2.2.1, uq26.2.2.2.2.2, uq27.1, uq27.2.1, uq27.2.2.1, uq27.2.2.2.1, uq27.2.2.2.2.1, uq27.2.2.2.2.2, uq28.1, uq28.2.1, uq28.2.2.1, uq28.2.2.2.1, uq28.2.2.2.2.1, uq28.2.2.2.2.2, uq29.1, uq29.2.1, uq29.2.2, v17, .pointer (some ⟨g5, 0, none⟩), .pointer (some ⟨g5, 2, none⟩), undef]) rfl ?_
          refine hK46 _ _ ?_
          refine wp_seq_k (fun K50 hK51 => ?_)
          refine c_region (fun ops53 hops52 => ?_)
          clear hops52
          refine p_run (l' := _) _ (x_loads [v17, vb, .slice none 0 0, .bool R.counted, .int .i64 R.left, .bool R.down] 6 rfl rfl (bkCells (HS.get (.head _)) 0 _ rfl) (by rfl) (by kernel_rfl) rfl) rfl ?_
          refine St.stores (cs' := [v17, vb, .slice none 0 0, .bool R.counted, .int .i64 R.left, .bool R.down]) (HS.front 2 rfl) [v17, vb, .slice none 0 0, .bool R.counted, .int .i64 R.left, .bool R.down] 6 rfl rfl (all1 (row_one (HS.get (.tail _ (.head _)))) (all1 (row_one (HS.get (.tail _ (.tail _ (.tail _ (.tail _ (.head _))))))) (all1 rfl (all1 rfl (all1 rfl (all1 rfl rfl)))))) (by kernel_rfl) rfl (by simp) rfl ?_
          clear HS
          intro w54 HS
          refine wpList_nil ?_
          refine fr_at (l' := [.agg ([.slice As R.stable.length cs, vb, .slice Ap R.pending.length cp, .bool R.counted, .int .i64 R.left, .bool R.down] : List Value).toArray, .slice A keep.length c, .pointer (some ⟨g5, 0, none⟩), undef, .pointer (some ⟨g8, 0, none⟩), v17, uq25.1, uq25.2.1, v15, .pointer (some ⟨g5, 0, none⟩), .slice As R.stable.length cs, v17, .pointer (some ⟨g5, 2, none⟩), .slice Ap R.pending.length cp, .int .i64 (R.pending.length : Int), .int .i64 (k : Int), .bool (decide ((k : Int) < (R.pending.length : Int))), uq25.2.2.2.1, uq25.2.2.2.2.1, uq25.2.2.2.2.2, uq26.1, uq26.2.1, uq26.2.2.1, uq26.2.2.2.1, uq26.2.2.2.2.1, uq26.2.2.2.2.2, uq27.1, uq27.2.1, uq27.2.2.1, uq27.2.2.2.1, uq27.2.2.2.2.1, uq27.2.2.2.2.2, uq28.1, uq28.2.1, uq28.2.2.1, uq28.2.2.2.1, uq28.2.2.2.2.1, uq28.2.2.2.2.2, uq29.1, uq29.2.1, uq29.2.2, v17, .pointer (some ⟨g5, 0, none⟩), .pointer (some ⟨g5, 2, none⟩), .agg ([v17, vb, .slice none 0 0, .bool R.counted, .int .i64 R.left, .bool R.down] : List Value).toArray]) rfl ?_
          refine hK51 _ _ ?_
          refine wp_ret ?_
          try simp only [Exit.inBlock, Exit.then]
          refine c_ret (.agg ([v17, vb, .slice none 0 0, .bool R.counted, .int .i64 R.left, .bool R.down] : List Value).toArray) (r_c rfl rfl (run_loadVar_aggn (by rfl) [v17, vb, .slice none 0 0, .bool R.counted, .int .i64 R.left, .bool R.down] 6 (by kernel_rfl) rfl (bkCells (HS.get (.head _)) 0 _ (whole _)))) ?_
          have e1 : (R.settle keep).stable = R.stable := by unfold Rk.settle; rw [hpe]; rfl
          replace HS := HS.nil kWr rfl 74
          refine ⟨_, rfl, ?_⟩
          show St _ _ _ (row kPg rfl _ _ (R.settle keep).stable :: row Kd.bool rfl _ vb R.bad :: row kWr rfl _ _ [] :: _)
          rw [e1]
          exact ((((((HS.front 1 rfl).drop.front 1 rfl).drop.front 2 rfl).drop.front 3 rfl).drop.front 2 rfl).front 2 rfl)
  · skip
    refine c_enter Try.func37 rfl 45 rfl [.agg ([.slice As R.stable.length cs, vb, .slice Ap R.pending.length cp, .bool R.counted, .int .i64 R.left, .bool R.down] : List Value).toArray, .slice A keep.length c, undef, undef, undef, undef, undef, undef, undef, undef, undef, undef, undef, undef, undef, undef, undef, undef, undef, undef, undef, undef, undef, undef, undef, undef, undef, undef, undef, undef, undef, undef, undef, undef, undef, undef, undef, undef, undef, undef, undef, undef, undef, undef, undef] rfl ?_
    refine wp_seq_k (fun K1 hK2 => ?_)
    refine c_region (fun ops4 hops3 => ?_)
    clear hops3
    refine St.wBox HS (cs := [.slice As R.stable.length cs, vb, .slice Ap R.pending.length cp, .bool R.counted, .int .i64 R.left, .bool R.down]) (.agg ([.slice As R.stable.length cs, vb, .slice Ap R.pending.length cp, .bool R.counted, .int .i64 R.left, .bool R.down] : List Value).toArray) rfl rfl ?_
    clear HS
    intro g5 w6 hg7 HS
    refine St.wAlloc HS (cs := [.slice none 0 0, .slice none 0 0, .slice none 0 0, .bool false, .int .i64 0, .bool false]) (.agg [.slice none 0 0, .slice none 0 0, .slice none 0 0, .bool false, .int .i64 0, .bool false].toArray) (by kernel_rfl) rfl ?_
    clear HS
    intro g8 w9 hg10 HS
    refine wpList_nil ?_
    refine fr_at (l' := [.agg ([.slice As R.stable.length cs, vb, .slice Ap R.pending.length cp, .bool R.counted, .int .i64 R.left, .bool R.down] : List Value).toArray, .slice A keep.length c, .pointer (some ⟨g5, 0, none⟩), undef, .pointer (some ⟨g8, 0, none⟩), undef, undef, undef, undef, undef, undef, undef, undef, undef, undef, undef, undef, undef, undef, undef, undef, undef, undef, undef, undef, undef, undef, undef, undef, undef, undef, undef, undef, undef, undef, undef, undef, undef, undef, undef, undef, undef, undef, undef, undef]) rfl ?_
    refine hK2 _ _ ?_
    refine wp_seq_k (fun K11 hK12 => ?_)
    refine c_region (fun ops14 hops13 => ?_)
    clear hops13
    refine St.wLit0 HS kPg rfl 256 (.agg ((nums .u8 zpg)).toArray) Try.underlying48 (by kernel_rfl) ?_
    clear HS
    intro v15 w16 HS
    refine p_run (l' := _) _ (x_field (j := 0) _ _ rfl rfl Try.underlying51 rfl (by rfl) rfl) rfl ?_
    refine p_run (l' := _) _ (x_load (.slice As R.stable.length cs) rfl rfl (bkCell (HS.get (.tail _ (.tail _ (.head _)))) 0 _ rfl) (by rfl)) rfl ?_
    refine St.wAppend HS ((.agg (nums .u8 zpg).toArray)) 256 Try.underlying48 (by kernel_rfl) (by kernel_rfl) (by decide) (by decide) R.stable _ _ _ rfl rfl (row_C (HS.get (.tail _ (.tail _ (.tail _ (.head _)))))).2.2 (fun _ _ h => h) (by simp; omega) ?_
    clear HS
    intro v17 w18 HS
    refine fr_to (l' := [.agg ([.slice As R.stable.length cs, vb, .slice Ap R.pending.length cp, .bool R.counted, .int .i64 R.left, .bool R.down] : List Value).toArray, .slice A keep.length c, .pointer (some ⟨g5, 0, none⟩), undef, .pointer (some ⟨g8, 0, none⟩), undef, undef, undef, v15, .pointer (some ⟨g5, 0, none⟩), .slice As R.stable.length cs, v17, undef, undef, undef, undef, undef, undef, undef, undef, undef, undef, undef, undef, undef, undef, undef, undef, undef, undef, undef, undef, undef, undef, undef, undef, undef, undef, undef, undef, undef, undef, undef, undef, undef]) rfl ?_
    refine p_run (l' := _) _ (x_assign (v17) rfl rfl) rfl ?_
    refine wpList_nil ?_
    refine fr_at (l' := [.agg ([.slice As R.stable.length cs, vb, .slice Ap R.pending.length cp, .bool R.counted, .int .i64 R.left, .bool R.down] : List Value).toArray, .slice A keep.length c, .pointer (some ⟨g5, 0, none⟩), undef, .pointer (some ⟨g8, 0, none⟩), v17, undef, undef, v15, .pointer (some ⟨g5, 0, none⟩), .slice As R.stable.length cs, v17, undef, undef, undef, undef, undef, undef, undef, undef, undef, undef, undef, undef, undef, undef, undef, undef, undef, undef, undef, undef, undef, undef, undef, undef, undef, undef, undef, undef, undef, undef, undef, undef, undef]) rfl ?_
    refine hK12 _ _ ?_
    refine wp_seq_k (fun K19 hK20 => ?_)
    refine wp_seq_k (fun K21 hK22 => ?_)
    skip
    · skip
      rw [List.nil_append] at HS
      obtain ⟨g, c2, sp, hv2, hb, hc1, hc2, hc3⟩ := row_pg HS.hs.head hne
      subst hv2
      replace HS := HS.alter hb (fun b h => (congrArg some (show b = g from h)).symm)
      rw [← st_zero (keep := keep) (R := R)] at HS
      refine c_region (fun ops24 hops23 => ?_)
      clear hops23
      refine p_run (l' := _) _ (x_field (j := 2) _ _ rfl rfl Try.underlying51 rfl (by rfl) rfl) rfl ?_
      refine p_run (l' := _) _ (x_load (.slice Ap R.pending.length cp) rfl rfl (bkCell (HS.get (.tail _ (.tail _ (.head _)))) 2 _ rfl) (by rfl)) rfl ?_
      refine p_run (l' := _) _ (x_len rfl rfl Try.underlying49) rfl ?_
      refine p_run (l' := [.agg ([.slice As R.stable.length cs, vb, .slice Ap R.pending.length cp, .bool R.counted, .int .i64 R.left, .bool R.down] : List Value).toArray, .slice A keep.length c, .pointer (some ⟨g5, 0, none⟩), undef, .pointer (some ⟨g8, 0, none⟩), .slice (some ⟨g, 0, none⟩) R.stable.length c2, undef, undef, v15, .pointer (some ⟨g5, 0, none⟩), .slice As R.stable.length cs, .slice (some ⟨g, 0, none⟩) R.stable.length c2, .pointer (some ⟨g5, 2, none⟩), .slice Ap R.pending.length cp, .int .i64 (R.pending.length : Int), .int .i64 0, undef, undef, undef, undef, undef, undef, undef, undef, undef, undef, undef, undef, undef, undef, undef, undef, undef, undef, undef, undef, undef, undef, undef, undef, undef, undef, undef, undef, undef]) _ (x_move (.int .i64 0) rfl rfl) rfl ?_
      refine wpList_nil ?_
      refine hK22 _ _ ?_
      refine wp_block ?_
      refine c_loop (ι := Nat) (fun i_ a_ w_ => match i_ with | k => ∃ (uq25 : Value × Value × Value × Value × Value × Value) (uq26 : Value × Value × Value × Value × Value × Value) (uq27 : Value × Value × Value × Value × Value × Value) (uq28 : Value × Value × Value × Value × Value × Value) (uq29 : Value × Value × Value), a_ = fr [.agg ([.slice As R.stable.length cs, vb, .slice Ap R.pending.length cp, .bool R.counted, .int .i64 R.left, .bool R.down] : List Value).toArray, .slice A keep.length c, .pointer (some ⟨g5, 0, none⟩), undef, .pointer (some ⟨g8, 0, none⟩), .slice (some ⟨g, 0, none⟩) R.stable.length c2, uq25.1, uq25.2.1, v15, .pointer (some ⟨g5, 0, none⟩), .slice As R.stable.length cs, .slice (some ⟨g, 0, none⟩) R.stable.length c2, .pointer (some ⟨g5, 2, none⟩), .slice Ap R.pending.length cp, .int .i64 (R.pending.length : Int), .int .i64 (k : Int), uq25.2.2.1, uq25.2.2.2.1, uq25.2.2.2.2.1, uq25.2.2.2.2.2, uq26.1, uq26.2.1, uq26.2.2.1, uq26.2.2.2.1, uq26.2.2.2.2.1, uq26.2.2.2.2.2, uq27.1, uq27.2.1, uq27.2.2.1, uq27.2.2.2.1, uq27.2.2.2.2.1, uq27.2.2.2.2.2, uq28.1, uq28.2.1, uq28.2.2.1, uq28.2.2.2.1, uq28.2.2.2.2.1, uq28.2.2.2.2.2, uq29.1, uq29.2.1, uq29.2.2, undef, undef, undef, undef] ∧ St w0 F w_ (blk g ((pgs (stN keep R k) ++ sp)) 31 :: blk g8 [.slice none 0 0, .slice none 0 0, .slice none 0 0, .bool false, .int .i64 0, .bool false] 51 :: blk g5 [.slice As R.stable.length cs, vb, .slice Ap R.pending.length cp, .bool R.counted, .int .i64 R.left, .bool R.down] 51 :: row kPg rfl 31 (.slice As R.stable.length cs) R.stable :: row Kd.bool rfl 4 vb R.bad :: row kWr rfl 74 (.slice Ap R.pending.length cp) R.pending :: L) ∧ (k ≤ R.pending.length)) (fun i_ => match i_ with | k => R.pending.length - k) 0 ?_ ?_
      · exact ⟨(undef, undef, undef, undef, undef, undef), (undef, undef, undef, undef, undef, undef), (undef, undef, undef, undef, undef, undef), (undef, undef, undef, undef, undef, undef), (undef, undef, undef), rfl, ((((((HS.front 5 rfl).front 5 rfl).front 5 rfl).front 5 rfl).front 5 rfl).front 5 rfl), Nat.zero_le _⟩
      · clear HS
        rintro k a_ w32 ⟨uq25, uq26, uq27, uq28, uq29, rfl, HS, hI⟩ J30 hJ31
        have hkl := hI
        refine wp_seq_k (fun K33 hK34 => ?_)
        refine c_region (fun ops36 hops35 => ?_)
        clear hops35
        refine p_run (l' := _) _ (x_cmp (k := .i64) (m := (k : Int)) (n := (R.pending.length : Int)) .lss (decide ((k : Int) < (R.pending.length : Int))) rfl rfl rfl rfl rfl) rfl ?_
        refine wpList_nil ?_
        refine fr_at (l' := [.agg ([.slice As R.stable.length cs, vb, .slice Ap R.pending.length cp, .bool R.counted, .int .i64 R.left, .bool R.down] : List Value).toArray, .slice A keep.length c, .pointer (some ⟨g5, 0, none⟩), undef, .pointer (some ⟨g8, 0, none⟩), .slice (some ⟨g, 0, none⟩) R.stable.length c2, uq25.1, uq25.2.1, v15, .pointer (some ⟨g5, 0, none⟩), .slice As R.stable.length cs, .slice (some ⟨g, 0, none⟩) R.stable.length c2, .pointer (some ⟨g5, 2, none⟩), .slice Ap R.pending.length cp, .int .i64 (R.pending.length : Int), .int .i64 (k : Int), .bool (decide ((k : Int) < (R.pending.length : Int))), uq25.2.2.2.1, uq25.2.2.2.2.1, uq25.2.2.2.2.2, uq26.1, uq26.2.1, uq26.2.2.1, uq26.2.2.2.1, uq26.2.2.2.2.1, uq26.2.2.2.2.2, uq27.1, uq27.2.1, uq27.2.2.1, uq27.2.2.2.1, uq27.2.2.2.2.1, uq27.2.2.2.2.2, uq28.1, uq28.2.1, uq28.2.2.1, uq28.2.2.2.1, uq28.2.2.2.2.1, uq28.2.2.2.2.2, uq29.1, uq29.2.1, uq29.2.2, undef, undef, undef, undef]) rfl ?_
        refine hK34 _ _ ?_
        refine wp_seq_k (fun K37 hK38 => ?_)
        refine c_cond (t := decide ((k : Int) < (R.pending.length : Int))) rfl (fun hc39 => ?_) (fun hc39 => ?_)
        · have hlt : k < R.pending.length := by have := of_decide_eq_true hc39; omega
          obtain ⟨ad, ⟨xa, xp⟩, rfl, hx, hxp, hcell⟩ := wr_get (row_C (HS.get (.tail _ (.tail _ (.tail _ (.tail _ (.tail _ (.head _)))))))).2.2 k hlt
          have hxb := hpd _ (List.mem_of_getElem? hx)
          dsimp only at hxb hcell hxp
          obtain ⟨q, rfl⟩ : ∃ q : Nat, xa = (q : Int) := ⟨xa.toNat, by omega⟩
          obtain ⟨hsT, hsl2⟩ := st_ok (keep := keep) hT hpd k
          have hqs : q < (stN keep R k).length := by omega
          obtain ⟨O, hO⟩ : ∃ O, (stN keep R k)[q]? = some O := ⟨_, List.getElem?_eq_getElem hqs⟩
          have hOl := hsT O (List.mem_of_getElem? hO)
          have hOd : (stN keep R k).getD q zpg = O := by rw [List.getD_eq_getElem?_getD, hO]; rfl
          refine wp_skip ?_
          refine hK38 _ _ ?_
          refine wp_seq_k (fun K40 hK41 => ?_)
          refine wp_block ?_
          refine wp_seq_k (fun K42 hK43 => ?_)
          refine c_region (fun ops45 hops44 => ?_)
          clear hops44
          refine p_run (l' := _) _ (x_move (.int .i64 (k : Int)) rfl rfl) rfl ?_
          refine p_run (l' := _) _ (x_index (A := ad) (j := k * 257) (sz := 257) rfl rfl rfl Try.underlying49 (by kernel_rfl) (by omega) rfl) rfl ?_
          refine p_run (l' := _) _ (x_loads (Value.int .i64 (q : Int) :: (nums .u8 xp)) 257 rfl rfl hcell (by rfl) (by kernel_rfl) (by simp [hxp, nums_length])) rfl ?_
          refine St.wAlloc HS (cs := (Value.int .i64 0 :: (nums .u8 zpg))) (.agg (Value.int .i64 0 :: (nums .u8 zpg)).toArray) (by kernel_rfl) rfl ?_
          clear HS
          intro g46 w47 hg48 HS
          refine fr_to (l' := [.agg ([.slice As R.stable.length cs, vb, .slice (some ad) R.pending.length cp, .bool R.counted, .int .i64 R.left, .bool R.down] : List Value).toArray, .slice A keep.length c, .pointer (some ⟨g5, 0, none⟩), undef, .pointer (some ⟨g8, 0, none⟩), .slice (some ⟨g, 0, none⟩) R.stable.length c2, uq25.1, .pointer (some ⟨g46, 0, none⟩), v15, .pointer (some ⟨g5, 0, none⟩), .slice As R.stable.length cs, .slice (some ⟨g, 0, none⟩) R.stable.length c2, .pointer (some ⟨g5, 2, none⟩), .slice (some ad) R.pending.length cp, .int .i64 (R.pending.length : Int), .int .i64 (k : Int), .bool (decide ((k : Int) < (R.pending.length : Int))), .int .i64 (k : Int), .pointer (some ((ad).add (k * 257))), .agg (Value.int .i64 (q : Int) :: (nums .u8 xp)).toArray, uq26.1, uq26.2.1, uq26.2.2.1, uq26.2.2.2.1, uq26.2.2.2.2.1, uq26.2.2.2.2.2, uq27.1, uq27.2.1, uq27.2.2.1, uq27.2.2.2.1, uq27.2.2.2.2.1, uq27.2.2.2.2.2, uq28.1, uq28.2.1, uq28.2.2.1, uq28.2.2.2.1, uq28.2.2.2.2.1, uq28.2.2.2.2.2, uq29.1, uq29.2.1, uq29.2.2, undef, undef, undef, undef]) rfl ?_
          refine p_run (l' := _) _ (x_assign (.int .i64 (k : Int)) rfl rfl) rfl ?_
          refine St.stores (cs' := (Value.int .i64 (q : Int) :: (nums .u8 xp))) HS (Value.int .i64 (q : Int) :: (nums .u8 xp)) 257 rfl rfl (all1 rfl (nums_one _ _)) (by kernel_rfl) (by simp [hxp, nums_length]) (by simp [hxp, nums_length, zlen]) (lay_all _ _ (by simp [hxp, nums_length, zlen])) ?_
          clear HS
          intro w49 HS
          refine wpList_nil ?_
          refine fr_at (l' := [.agg ([.slice As R.stable.length cs, vb, .slice (some ad) R.pending.length cp, .bool R.counted, .int .i64 R.left, .bool R.down] : List Value).toArray, .slice A keep.length c, .pointer (some ⟨g5, 0, none⟩), undef, .pointer (some ⟨g8, 0, none⟩), .slice (some ⟨g, 0, none⟩) R.stable.length c2, .int .i64 (k : Int), .pointer (some ⟨g46, 0, none⟩), v15, .pointer (some ⟨g5, 0, none⟩), .slice As R.stable.length cs, .slice (some ⟨g, 0, none⟩) R.stable.length c2, .pointer (some ⟨g5, 2, none⟩), .slice (some ad) R.pending.length cp, .int .i64 (R.pending.length : Int), .int .i64 (k : Int), .bool (decide ((k : Int) < (R.pending.length : Int))), .int .i64 (k : Int), .pointer (some ((ad).add (k * 257))), .agg (Value.int .i64 (q : Int) :: (nums .u8 xp)).toArray, uq26.1, uq26.2.1, uq26.2.2.1, uq26.2.2.2.1, uq26.2.2.2.2.1, uq26.2.2.2.2.2, uq27.1, uq27.2.1, uq27.2.2.1, uq27.2.2.2.1, uq27.2.2.2.2.1, uq27.2.2.2.2.2, uq28.1, uq28.2.1, uq28.2.2.1, uq28.2.2.2.1, uq28.2.2.2.2.1, uq28.2.2.2.2.2, uq29.1, uq29.2.1, uq29.2.2, undef, undef, undef, undef]) rfl ?_
          refine hK43 _ _ ?_
          refine wp_seq_k (fun K50 hK51 => ?_)
          by_cases hkk : k < keep.length
          · skip
            obtain ⟨ak, hak, hkc⟩ := keep_get (hkeep _ [_, _, _, _, _, _, _] HS) k hkk
            subst hak
            have hc3k : (pgs (stN keep R k) ++ sp).length = c2 * 256 := by rw [List.length_append, pgs_length _ hsT, hsl2, ← pgs_length _ hT, ← List.length_append]; exact hc3
            have hmk : 0 ≤ maskOf keep k := by unfold maskOf; rw [List.getD_eq_getElem?_getD, List.getElem?_eq_getElem hkk]; exact (hk0 _ (List.getElem_mem hkk)).1
            have hml := mixS_len (m := maskOf keep k) hOl hxp 8 (Nat.le_refl _)
            refine c_region (fun ops53 hops52 => ?_)
            clear hops52
            refine p_run (l' := _) _ (x_move (.int .i64 (k : Int)) rfl rfl) rfl ?_
            refine p_run (l' := _) _ (x_move (.slice (some ak) keep.length c) rfl rfl) rfl ?_
            refine p_run (l' := _) _ (x_len rfl rfl Try.underlying36) rfl ?_
            refine p_run (l' := [.agg ([.slice As R.stable.length cs, vb, .slice (some ad) R.pending.length cp, .bool R.counted, .int .i64 R.left, .bool R.down] : List Value).toArray, .slice (some ak) keep.length c, .pointer (some ⟨g5, 0, none⟩), undef, .pointer (some ⟨g8, 0, none⟩), .slice (some ⟨g, 0, none⟩) R.stable.length c2, .int .i64 (k : Int), .pointer (some ⟨g46, 0, none⟩), v15, .pointer (some ⟨g5, 0, none⟩), .slice As R.stable.length cs, .slice (some ⟨g, 0, none⟩) R.stable.length c2, .pointer (some ⟨g5, 2, none⟩), .slice (some ad) R.pending.length cp, .int .i64 (R.pending.length : Int), .int .i64 (k : Int), .bool (decide ((k : Int) < (R.pending.length : Int))), .int .i64 (k : Int), .pointer (some ((ad).add (k * 257))), .agg (Value.int .i64 (q : Int) :: (nums .u8 xp)).toArray, .int .i64 (k : Int), .slice (some ak) keep.length c, .int .i64 (keep.length : Int), .bool true, uq26.2.2.2.2.1, uq26.2.2.2.2.2, uq27.1, uq27.2.1, uq27.2.2.1, uq27.2.2.2.1, uq27.2.2.2.2.1, uq27.2.2.2.2.2, uq28.1, uq28.2.1, uq28.2.2.1, uq28.2.2.2.1, uq28.2.2.2.2.1, uq28.2.2.2.2.2, uq29.1, uq29.2.1, uq29.2.2, undef, undef, undef, undef]) _ (x_cmp (k := .i64) (m := (k : Int)) (n := (keep.length : Int)) .lss true rfl rfl rfl (decide_eq_true (by omega)) rfl) rfl ?_
            refine wpList_nil ?_
            refine hK51 _ _ ?_
            refine c_true rfl ?_
            refine free_frame (n := 17) (T := _) [0, 0, 2, 0, 0, 16, 56, 120, 0, 256, 0, 0, 3072, 7168, 16376, 32767, 65535] [(0, 24), (1, 25), (2, 26), (3, 27), (4, 28), (5, 29), (6, 30), (7, 31), (8, 32), (9, 33), (10, 34), (11, 35), (12, 36), (13, 37), (14, 38), (15, 39)] (fun bq_ vq_ w_ => qv ((fun i_ => match i_ with | 0 => some (.slice (some ⟨g, 0, none⟩) R.stable.length c2) | 1 => some (.pointer (some ⟨g46, 0, none⟩)) | 2 => some (.int .i64 (q : Int)) | 3 => some (.slice (some ⟨g, 0, none⟩) R.stable.length c2) | 4 => some (.pointer (some ⟨g46, 0, none⟩)) | 5 => some (.int .i64 (q : Int)) | 6 => some (.pointer (some ⟨g, q * 256, none⟩)) | 7 => some (.agg ((nums .u8 O)).toArray) | 8 => some (.pointer (some ⟨g46, 1, none⟩)) | 9 => some (.agg ((nums .u8 xp)).toArray) | 10 => some (.slice (some ak) keep.length c) | 11 => some (.int .i64 (k : Int)) | 12 => some (.pointer (some ((ak).add (k * 1)))) | 13 => some (.int .u8 (maskOf keep k)) | 15 => some (.pointer (some ⟨g, q * 256, none⟩)) | _ => none) : Nat → Option Value) bq_ vq_ ∧ cond (bq_ 16) (vq_ 14 = .agg ((nums .u8 (mixS (maskOf keep k) O xp 8))).toArray ∧ St w0 F w_ (blk g ((pgs ((stN keep R k).set q (mixS (maskOf keep k) O xp 8)) ++ sp)) 31 :: blk g46 (Value.int .i64 (q : Int) :: (nums .u8 xp)) 74 :: blk g8 [.slice none 0 0, .slice none 0 0, .slice none 0 0, .bool false, .int .i64 0, .bool false] 51 :: blk g5 [.slice As R.stable.length cs, vb, .slice (some ad) R.pending.length cp, .bool R.counted, .int .i64 R.left, .bool R.down] 51 :: row kPg rfl 31 (.slice As R.stable.length cs) R.stable :: row Kd.bool rfl 4 vb R.bad :: row kWr rfl 74 (.slice (some ad) R.pending.length cp) R.pending :: L)) (cond (bq_ 14) (vq_ 14 = .agg ((nums .u8 (mixS (maskOf keep k) O xp 8))).toArray ∧ St w0 F w_ (blk g46 (Value.int .i64 (q : Int) :: (nums .u8 xp)) 74 :: blk g ((pgs (stN keep R k) ++ sp)) 31 :: blk g8 [.slice none 0 0, .slice none 0 0, .slice none 0 0, .bool false, .int .i64 0, .bool false] 51 :: blk g5 [.slice As R.stable.length cs, vb, .slice (some ad) R.pending.length cp, .bool R.counted, .int .i64 R.left, .bool R.down] 51 :: row kPg rfl 31 (.slice As R.stable.length cs) R.stable :: row Kd.bool rfl 4 vb R.bad :: row kWr rfl 74 (.slice (some ad) R.pending.length cp) R.pending :: L)) ((St w0 F w_ (blk g46 (Value.int .i64 (q : Int) :: (nums .u8 xp)) 74 :: blk g ((pgs (stN keep R k) ++ sp)) 31 :: blk g8 [.slice none 0 0, .slice none 0 0, .slice none 0 0, .bool false, .int .i64 0, .bool false] 51 :: blk g5 [.slice As R.stable.length cs, vb, .slice (some ad) R.pending.length cp, .bool R.counted, .int .i64 R.left, .bool R.down] 51 :: row kPg rfl 31 (.slice As R.stable.length cs) R.stable :: row Kd.bool rfl 4 vb R.bad :: row kWr rfl 74 (.slice (some ad) R.pending.length cp) R.pending :: L))))) (by kernel_rfl) rfl rfl (by kernel_rfl) (by kernel_rfl) rfl (by kernel_rfl) (by kernel_rfl) ⟨qv_none, HS.draw⟩ ?_ ?_
            · clear HS
              intro i_ hi_ bq_ vq_ a_ w_ hG hb_ hon hoff hfr hel hval
              obtain ⟨hV, hE⟩ := hG
              have hi_ := List.mem_range.1 hi_
              have hcs : i_ = 0 ∨ i_ = 1 ∨ i_ = 2 ∨ i_ = 3 ∨ i_ = 4 ∨ i_ = 5 ∨ i_ = 6 ∨ i_ = 7 ∨ i_ = 8 ∨ i_ = 9 ∨ i_ = 10 ∨ i_ = 11 ∨ i_ = 12 ∨ i_ = 13 ∨ i_ = 14 ∨ i_ = 15 ∨ i_ = 16 := by omega
              rcases hcs with rfl | rfl | rfl | rfl | rfl | rfl | rfl | rfl | rfl | rfl | rfl | rfl | rfl | rfl | rfl | rfl | rfl
              · have h5 : a_.tmps[5]? = some (.slice (some ⟨g, 0, none⟩) R.stable.length c2) := (hel 5 (by decide)).trans rfl
                obtain ⟨l_, rfl⟩ := hfr
                have e5 : evl l_ (.tmp 5) = .slice (some ⟨g, 0, none⟩) R.stable.length c2 := evl_of h5
                refine ⟨_, rfl, fun K_ hK_ => wp_of_list rfl ?_⟩
                intro ops_
                refine p_run (l' := _) _ (x_move (.slice (some ⟨g, 0, none⟩) R.stable.length c2) rfl e5) rfl ?_
                refine wpList_nil ?_
                exact norm_put (hK_ (.slice (some ⟨g, 0, none⟩) R.stable.length c2) _ ⟨qv_up hV (fun _ h => Option.some.inj h), hE⟩)
              · have h7 : a_.tmps[7]? = some (.pointer (some ⟨g46, 0, none⟩)) := (hel 7 (by decide)).trans rfl
                obtain ⟨l_, rfl⟩ := hfr
                have e7 : evl l_ (.tmp 7) = .pointer (some ⟨g46, 0, none⟩) := evl_of h7
                refine ⟨_, rfl, fun K_ hK_ => wp_of_list rfl ?_⟩
                intro ops_
                refine p_run (l' := _) _ (x_field (j := 0) _ _ rfl e7 Try.underlying74 rfl (by rfl) rfl) rfl ?_
                refine wpList_nil ?_
                exact norm_put (hK_ (.pointer (some ⟨g46, 0, none⟩)) _ ⟨qv_up hV (fun _ h => Option.some.inj h), hE⟩)
              · have h25 : a_.tmps[25]? = some (.pointer (some ⟨g46, 0, none⟩)) := (hval (1, 25) (by decide) (hon 1 (by decide))).trans (congrArg some (hV 1 _ rfl (hon 1 (by decide))))
                obtain ⟨l_, rfl⟩ := hfr
                rcases hq14 : bq_ 14 with _ | _
                · skip
                  have hE0 := hE
                  rw [show bq_ 16 = false from (hoff 16 (by decide))] at hE0
                  rw [show bq_ 14 = false from hq14] at hE0
                  simp only [cond_true, cond_false] at hE0
                  have HS := hE0
                  have e25 : evl l_ (.tmp 25) = .pointer (some ⟨g46, 0, none⟩) := evl_of h25
                  refine ⟨_, rfl, fun K_ hK_ => wp_of_list rfl ?_⟩
                  intro ops_
                  refine p_run (l' := _) _ (x_load (.int .i64 (q : Int)) rfl e25 (bkCell (HS.get (.head _)) 0 _ rfl) (by rfl)) rfl ?_
                  refine wpList_nil ?_
                  exact norm_put (hK_ (.int .i64 (q : Int)) _ ⟨qv_up hV (fun _ h => Option.some.inj h), hE⟩)
                · have hE0 := hE
                  rw [show bq_ 16 = false from (hoff 16 (by decide))] at hE0
                  rw [show bq_ 14 = true from hq14] at hE0
                  simp only [cond_true, cond_false] at hE0
                  obtain ⟨hv14, HS⟩ := hE0
                  have e25 : evl l_ (.tmp 25) = .pointer (some ⟨g46, 0, none⟩) := evl_of h25
                  refine ⟨_, rfl, fun K_ hK_ => wp_of_list rfl ?_⟩
                  intro ops_
                  refine p_run (l' := _) _ (x_load (.int .i64 (q : Int)) rfl e25 (bkCell (HS.get (.head _)) 0 _ rfl) (by rfl)) rfl ?_
                  refine wpList_nil ?_
                  exact norm_put (hK_ (.int .i64 (q : Int)) _ ⟨qv_up hV (fun _ h => Option.some.inj h), hE⟩)
              · have h5 : a_.tmps[5]? = some (.slice (some ⟨g, 0, none⟩) R.stable.length c2) := (hel 5 (by decide)).trans rfl
                obtain ⟨l_, rfl⟩ := hfr
                have e5 : evl l_ (.tmp 5) = .slice (some ⟨g, 0, none⟩) R.stable.length c2 := evl_of h5
                refine ⟨_, rfl, fun K_ hK_ => wp_of_list rfl ?_⟩
                intro ops_
                refine p_run (l' := _) _ (x_move (.slice (some ⟨g, 0, none⟩) R.stable.length c2) rfl e5) rfl ?_
                refine wpList_nil ?_
                exact norm_put (hK_ (.slice (some ⟨g, 0, none⟩) R.stable.length c2) _ ⟨qv_up hV (fun _ h => Option.some.inj h), hE⟩)
              · have h7 : a_.tmps[7]? = some (.pointer (some ⟨g46, 0, none⟩)) := (hel 7 (by decide)).trans rfl
                obtain ⟨l_, rfl⟩ := hfr
                have e7 : evl l_ (.tmp 7) = .pointer (some ⟨g46, 0, none⟩) := evl_of h7
                refine ⟨_, rfl, fun K_ hK_ => wp_of_list rfl ?_⟩
                intro ops_
                refine p_run (l' := _) _ (x_field (j := 0) _ _ rfl e7 Try.underlying74 rfl (by rfl) rfl) rfl ?_
                refine wpList_nil ?_
                exact norm_put (hK_ (.pointer (some ⟨g46, 0, none⟩)) _ ⟨qv_up hV (fun _ h => Option.some.inj h), hE⟩)
              · have h28 : a_.tmps[28]? = some (.pointer (some ⟨g46, 0, none⟩)) := (hval (4, 28) (by decide) (hon 4 (by decide))).trans (congrArg some (hV 4 _ rfl (hon 4 (by decide))))
                obtain ⟨l_, rfl⟩ := hfr
                have hE0 := hE
                rw [show bq_ 16 = false from (hoff 16 (by decide))] at hE0
                rw [show bq_ 14 = false from (hoff 14 (by decide))] at hE0
                simp only [cond_true, cond_false] at hE0
                have HS := hE0
                have e28 : evl l_ (.tmp 28) = .pointer (some ⟨g46, 0, none⟩) := evl_of h28
                refine ⟨_, rfl, fun K_ hK_ => wp_of_list rfl ?_⟩
                intro ops_
                refine p_run (l' := _) _ (x_load (.int .i64 (q : Int)) rfl e28 (bkCell (HS.get (.head _)) 0 _ rfl) (by rfl)) rfl ?_
                refine wpList_nil ?_
                exact norm_put (hK_ (.int .i64 (q : Int)) _ ⟨qv_up hV (fun _ h => Option.some.inj h), hE⟩)
              · have h27 : a_.tmps[27]? = some (.slice (some ⟨g, 0, none⟩) R.stable.length c2) := (hval (3, 27) (by decide) (hon 3 (by decide))).trans (congrArg some (hV 3 _ rfl (hon 3 (by decide))))
                have h29 : a_.tmps[29]? = some (.int .i64 (q : Int)) := (hval (5, 29) (by decide) (hon 5 (by decide))).trans (congrArg some (hV 5 _ rfl (hon 5 (by decide))))
                obtain ⟨l_, rfl⟩ := hfr
                have e27 : evl l_ (.tmp 27) = .slice (some ⟨g, 0, none⟩) R.stable.length c2 := evl_of h27
                have e29 : evl l_ (.tmp 29) = .int .i64 (q : Int) := evl_of h29
                refine ⟨_, rfl, fun K_ hK_ => wp_of_list rfl ?_⟩
                intro ops_
                refine p_run (l' := _) (.pointer (some ⟨g, q * 256, none⟩)) ((x_index (A := ⟨g, 0, none⟩) (j := q * 256) (sz := 256) rfl e27 e29 Try.underlying48 (by kernel_rfl) (by omega) rfl).trans (by rw [add_mk, Nat.zero_add])) rfl ?_
                refine wpList_nil ?_
                exact norm_put (hK_ (.pointer (some ⟨g, q * 256, none⟩)) _ ⟨qv_up hV (fun _ h => Option.some.inj h), hE⟩)
              · have h30 : a_.tmps[30]? = some (.pointer (some ⟨g, q * 256, none⟩)) := (hval (6, 30) (by decide) (hon 6 (by decide))).trans (congrArg some (hV 6 _ rfl (hon 6 (by decide))))
                obtain ⟨l_, rfl⟩ := hfr
                have hE0 := hE
                rw [show bq_ 16 = false from (hoff 16 (by decide))] at hE0
                rw [show bq_ 14 = false from (hoff 14 (by decide))] at hE0
                simp only [cond_true, cond_false] at hE0
                have HS := hE0
                have e30 : evl l_ (.tmp 30) = .pointer (some ⟨g, q * 256, none⟩) := evl_of h30
                refine ⟨_, rfl, fun K_ hK_ => wp_of_list rfl ?_⟩
                intro ops_
                refine p_run (l' := _) _ (x_loads (nums .u8 O) 256 rfl e30 (bkCells (HS.get (.tail _ (.head _))) (q * 256) _ (pg_at hsT hO)) (by rfl) (by kernel_rfl) (by rw [nums_length]; exact hOl)) rfl ?_
                refine wpList_nil ?_
                exact norm_put (hK_ (.agg ((nums .u8 O)).toArray) _ ⟨qv_up hV (fun _ h => Option.some.inj h), hE⟩)
              · have h7 : a_.tmps[7]? = some (.pointer (some ⟨g46, 0, none⟩)) := (hel 7 (by decide)).trans rfl
                obtain ⟨l_, rfl⟩ := hfr
                have e7 : evl l_ (.tmp 7) = .pointer (some ⟨g46, 0, none⟩) := evl_of h7
                refine ⟨_, rfl, fun K_ hK_ => wp_of_list rfl ?_⟩
                intro ops_
                refine p_run (l' := _) _ (x_field (j := 1) _ _ rfl e7 Try.underlying74 rfl (by rfl) rfl) rfl ?_
                refine wpList_nil ?_
                exact norm_put (hK_ (.pointer (some ⟨g46, 1, none⟩)) _ ⟨qv_up hV (fun _ h => Option.some.inj h), hE⟩)
              · have h32 : a_.tmps[32]? = some (.pointer (some ⟨g46, 1, none⟩)) := (hval (8, 32) (by decide) (hon 8 (by decide))).trans (congrArg some (hV 8 _ rfl (hon 8 (by decide))))
                obtain ⟨l_, rfl⟩ := hfr
                have hE0 := hE
                rw [show bq_ 16 = false from (hoff 16 (by decide))] at hE0
                rw [show bq_ 14 = false from (hoff 14 (by decide))] at hE0
                simp only [cond_true, cond_false] at hE0
                have HS := hE0
                have e32 : evl l_ (.tmp 32) = .pointer (some ⟨g46, 1, none⟩) := evl_of h32
                refine ⟨_, rfl, fun K_ hK_ => wp_of_list rfl ?_⟩
                intro ops_
                refine p_run (l' := _) _ (x_loads ((nums .u8 xp)) 256 rfl e32 (bkCells (HS.get (.head _)) 1 _ (by simp)) (by rfl) (by kernel_rfl) (by simp [hxp, nums_length])) rfl ?_
                refine wpList_nil ?_
                exact norm_put (hK_ (.agg ((nums .u8 xp)).toArray) _ ⟨qv_up hV (fun _ h => Option.some.inj h), hE⟩)
              · have h1 : a_.tmps[1]? = some (.slice (some ak) keep.length c) := (hel 1 (by decide)).trans rfl
                obtain ⟨l_, rfl⟩ := hfr
                have e1 : evl l_ (.tmp 1) = .slice (some ak) keep.length c := evl_of h1
                refine ⟨_, rfl, fun K_ hK_ => wp_of_list rfl ?_⟩
                intro ops_
                refine p_run (l' := _) _ (x_move (.slice (some ak) keep.length c) rfl e1) rfl ?_
                refine wpList_nil ?_
                exact norm_put (hK_ (.slice (some ak) keep.length c) _ ⟨qv_up hV (fun _ h => Option.some.inj h), hE⟩)
              · have h6 : a_.tmps[6]? = some (.int .i64 (k : Int)) := (hel 6 (by decide)).trans rfl
                obtain ⟨l_, rfl⟩ := hfr
                have e6 : evl l_ (.tmp 6) = .int .i64 (k : Int) := evl_of h6
                refine ⟨_, rfl, fun K_ hK_ => wp_of_list rfl ?_⟩
                intro ops_
                refine p_run (l' := _) _ (x_move (.int .i64 (k : Int)) rfl e6) rfl ?_
                refine wpList_nil ?_
                exact norm_put (hK_ (.int .i64 (k : Int)) _ ⟨qv_up hV (fun _ h => Option.some.inj h), hE⟩)
              · have h34 : a_.tmps[34]? = some (.slice (some ak) keep.length c) := (hval (10, 34) (by decide) (hon 10 (by decide))).trans (congrArg some (hV 10 _ rfl (hon 10 (by decide))))
                have h35 : a_.tmps[35]? = some (.int .i64 (k : Int)) := (hval (11, 35) (by decide) (hon 11 (by decide))).trans (congrArg some (hV 11 _ rfl (hon 11 (by decide))))
                obtain ⟨l_, rfl⟩ := hfr
                have e34 : evl l_ (.tmp 34) = .slice (some ak) keep.length c := evl_of h34
                have e35 : evl l_ (.tmp 35) = .int .i64 (k : Int) := evl_of h35
                refine ⟨_, rfl, fun K_ hK_ => wp_of_list rfl ?_⟩
                intro ops_
                refine p_run (l' := _) _ (x_index (A := ak) (j := k * 1) (sz := 1) rfl e34 e35 Try.underlying36 (by kernel_rfl) (by omega) rfl) rfl ?_
                refine wpList_nil ?_
                exact norm_put (hK_ (.pointer (some ((ak).add (k * 1)))) _ ⟨qv_up hV (fun _ h => Option.some.inj h), hE⟩)
              · have h36 : a_.tmps[36]? = some (.pointer (some ((ak).add (k * 1)))) := (hval (12, 36) (by decide) (hon 12 (by decide))).trans (congrArg some (hV 12 _ rfl (hon 12 (by decide))))
                obtain ⟨l_, rfl⟩ := hfr
                have hE0 := hE
                rw [show bq_ 16 = false from (hoff 16 (by decide))] at hE0
                rw [show bq_ 14 = false from (hoff 14 (by decide))] at hE0
                simp only [cond_true, cond_false] at hE0
                have HS := hE0
                have e36 : evl l_ (.tmp 36) = .pointer (some ((ak).add (k * 1))) := evl_of h36
                refine ⟨_, rfl, fun K_ hK_ => wp_of_list rfl ?_⟩
                intro ops_
                refine p_run (l' := _) _ (x_load (.int .u8 (maskOf keep k)) rfl e36 (by obtain ⟨a_, ha_, hc_⟩ := keep_get (hkeep _ [_, _, _, _, _, _, _] HS) k hkk; obtain rfl := Option.some.inj ha_; exact hc_) (by rfl)) rfl ?_
                refine wpList_nil ?_
                exact norm_put (hK_ (.int .u8 (maskOf keep k)) _ ⟨qv_up hV (fun _ h => Option.some.inj h), hE⟩)
              · have h31 : a_.tmps[31]? = some (.agg ((nums .u8 O)).toArray) := (hval (7, 31) (by decide) (hon 7 (by decide))).trans (congrArg some (hV 7 _ rfl (hon 7 (by decide))))
                have h33 : a_.tmps[33]? = some (.agg ((nums .u8 xp)).toArray) := (hval (9, 33) (by decide) (hon 9 (by decide))).trans (congrArg some (hV 9 _ rfl (hon 9 (by decide))))
                have h37 : a_.tmps[37]? = some (.int .u8 (maskOf keep k)) := (hval (13, 37) (by decide) (hon 13 (by decide))).trans (congrArg some (hV 13 _ rfl (hon 13 (by decide))))
                obtain ⟨l_, rfl⟩ := hfr
                have hE0 := hE
                rw [show bq_ 16 = false from (hoff 16 (by decide))] at hE0
                rw [show bq_ 14 = false from hb_] at hE0
                simp only [cond_true, cond_false] at hE0
                have HS := hE0
                have e31 : evl l_ (.tmp 31) = .agg ((nums .u8 O)).toArray := evl_of h31
                have e33 : evl l_ (.tmp 33) = .agg ((nums .u8 xp)).toArray := evl_of h33
                have e37 : evl l_ (.tmp 37) = .int .u8 (maskOf keep k) := evl_of h37
                refine ⟨_, rfl, fun K_ hK_ => wp_of_list rfl ?_⟩
                intro ops_
                refine w_call [.agg ((nums .u8 O)).toArray, .agg ((nums .u8 xp)).toArray, .int .u8 (maskOf keep k)] Try.func38 (by kernel_rfl) (by rfl) (by simp only [List.map_cons, List.map_nil, e31, e33, e37] <;> rfl) ?_
                refine (rkMix_any HS O xp hOl hxp (maskOf keep k) hmk).mono ?_
                clear HS
                rintro e w901401 ⟨rfl, HS⟩
                refine ⟨_, rfl, ?_⟩
                refine wpList_nil ?_
                refine norm_put (hK_ (.agg ((nums .u8 (mixS (maskOf keep k) O xp 8))).toArray) _ ⟨qv_up hV (by intro _ h; cases h), ?_⟩)
                show cond (bq_ 16) _ _
                rw [show bq_ 16 = false from hoff 16 (by decide), cond_false]
                show cond true _ _
                rw [cond_true]
                exact ⟨rfl, (((((((HS.front 6 rfl).front 6 rfl).front 6 rfl).front 6 rfl).front 6 rfl).front 6 rfl).front 6 rfl)⟩
              · have h24 : a_.tmps[24]? = some (.slice (some ⟨g, 0, none⟩) R.stable.length c2) := (hval (0, 24) (by decide) (hon 0 (by decide))).trans (congrArg some (hV 0 _ rfl (hon 0 (by decide))))
                have h26 : a_.tmps[26]? = some (.int .i64 (q : Int)) := (hval (2, 26) (by decide) (hon 2 (by decide))).trans (congrArg some (hV 2 _ rfl (hon 2 (by decide))))
                obtain ⟨l_, rfl⟩ := hfr
                have e24 : evl l_ (.tmp 24) = .slice (some ⟨g, 0, none⟩) R.stable.length c2 := evl_of h24
                have e26 : evl l_ (.tmp 26) = .int .i64 (q : Int) := evl_of h26
                refine ⟨_, rfl, fun K_ hK_ => wp_of_list rfl ?_⟩
                intro ops_
                refine p_run (l' := _) (.pointer (some ⟨g, q * 256, none⟩)) ((x_index (A := ⟨g, 0, none⟩) (j := q * 256) (sz := 256) rfl e24 e26 Try.underlying48 (by kernel_rfl) (by omega) rfl).trans (by rw [add_mk, Nat.zero_add])) rfl ?_
                refine wpList_nil ?_
                exact norm_put (hK_ (.pointer (some ⟨g, q * 256, none⟩)) _ ⟨qv_up hV (fun _ h => Option.some.inj h), hE⟩)
              · have h38 := hval (14, 38) (by decide) (hon 14 (by decide))
                have h39 : a_.tmps[39]? = some (.pointer (some ⟨g, q * 256, none⟩)) := (hval (15, 39) (by decide) (hon 15 (by decide))).trans (congrArg some (hV 15 _ rfl (hon 15 (by decide))))
                obtain ⟨l_, rfl⟩ := hfr
                have hE0 := hE
                rw [show bq_ 16 = false from hb_] at hE0
                rw [show bq_ 14 = true from (hon 14 (by decide))] at hE0
                simp only [cond_true, cond_false] at hE0
                obtain ⟨hv14, HS⟩ := hE0
                rw [hv14] at h38
                have e38 : evl l_ (.tmp 38) = .agg ((nums .u8 (mixS (maskOf keep k) O xp 8))).toArray := evl_of h38
                have e39 : evl l_ (.tmp 39) = .pointer (some ⟨g, q * 256, none⟩) := evl_of h39
                refine ⟨_, rfl, fun K_ hK_ => wp_of_list rfl ?_⟩
                intro ops_
                replace HS := (HS.front 1 rfl)
                refine St.stores (cs' := pgs ((stN keep R k).set q (mixS (maskOf keep k) O xp 8)) ++ sp) HS (nums .u8 (mixS (maskOf keep k) O xp 8)) 256 e39 e38 (nums_one _ _) (by kernel_rfl) (by rw [nums_length]; exact hml) (by rw [nums_length, hml, hc3k]; have := Nat.mul_le_mul_right 256 (show q + 1 ≤ c2 by omega); omega) (pg_put hsT hO hml) ?_
                clear HS
                intro w901601 HS
                refine wpList_nil ?_
                refine norm_none (hK_ undef _ ⟨qv_up hV (by intro _ h; cases h), ?_⟩)
                show cond true _ _
                rw [cond_true]
                exact ⟨hv14, (((((((HS.front 6 rfl).front 6 rfl).front 6 rfl).front 6 rfl).front 6 rfl).front 6 rfl).front 6 rfl)⟩
            intro bq_ vq_ w_ hall hG
            obtain ⟨hV, hE⟩ := hG
            clear HS
            rw [show bq_ 16 = true from hall 16 (by decide)] at hE
            simp only [cond_true] at hE
            obtain ⟨hv14, HS⟩ := hE
            have hv0 := hV 0 _ rfl (hall 0 (by decide))
            have hv1 := hV 1 _ rfl (hall 1 (by decide))
            have hv2 := hV 2 _ rfl (hall 2 (by decide))
            have hv3 := hV 3 _ rfl (hall 3 (by decide))
            have hv4 := hV 4 _ rfl (hall 4 (by decide))
            have hv5 := hV 5 _ rfl (hall 5 (by decide))
            have hv6 := hV 6 _ rfl (hall 6 (by decide))
            have hv7 := hV 7 _ rfl (hall 7 (by decide))
            have hv8 := hV 8 _ rfl (hall 8 (by decide))
            have hv9 := hV 9 _ rfl (hall 9 (by decide))
            have hv10 := hV 10 _ rfl (hall 10 (by decide))
            have hv11 := hV 11 _ rfl (hall 11 (by decide))
            have hv12 := hV 12 _ rfl (hall 12 (by decide))
            have hv13 := hV 13 _ rfl (hall 13 (by decide))
            have hv15 := hV 15 _ rfl (hall 15 (by decide))
            clear hV hall
            rw [putSel_fr]
            simp only [tells, List.map_cons, List.map_nil, setAll, List.set_cons_succ, List.set_cons_zero, hv0, hv1, hv2, hv3, hv4, hv5, hv6, hv7, hv8, hv9, hv10, hv11, hv12, hv13, hv14, hv15]
            clear hv0 hv1 hv2 hv3 hv4 hv5 hv6 hv7 hv8 hv9 hv10 hv11 hv12 hv13 hv14 hv15
            generalize w_ = w901602 at HS ⊢
            refine fr_at (l' := [.agg ([.slice As R.stable.length cs, vb, .slice (some ad) R.pending.length cp, .bool R.counted, .int .i64 R.left, .bool R.down] : List Value).toArray, .slice (some ak) keep.length c, .pointer (some ⟨g5, 0, none⟩), undef, .pointer (some ⟨g8, 0, none⟩), .slice (some ⟨g, 0, none⟩) R.stable.length c2, .int .i64 (k : Int), .pointer (some ⟨g46, 0, none⟩), v15, .pointer (some ⟨g5, 0, none⟩), .slice As R.stable.length cs, .slice (some ⟨g, 0, none⟩) R.stable.length c2, .pointer (some ⟨g5, 2, none⟩), .slice (some ad) R.pending.length cp, .int .i64 (R.pending.length : Int), .int .i64 (k : Int), .bool (decide ((k : Int) < (R.pending.length : Int))), .int .i64 (k : Int), .pointer (some ((ad).add (k * 257))), .agg (Value.int .i64 (q : Int) :: (nums .u8 xp)).toArray, .int .i64 (k : Int), .slice (some ak) keep.length c, .int .i64 (keep.length : Int), .bool true, .slice (some ⟨g, 0, none⟩) R.stable.length c2, .pointer (some ⟨g46, 0, none⟩), .int .i64 (q : Int), .slice (some ⟨g, 0, none⟩) R.stable.length c2, .pointer (some ⟨g46, 0, none⟩), .int .i64 (q : Int), .pointer (some ⟨g, q * 256, none⟩), .agg ((nums .u8 O)).toArray, .pointer (some ⟨g46, 1, none⟩), .agg ((nums .u8 xp)).toArray, .slice (some ak) keep.length c, .int .i64 (k : Int), .pointer (some ((ak).add (k * 1))), .int .u8 (maskOf keep k), .agg ((nums .u8 (mixS (maskOf keep k) O xp 8))).toArray, .pointer (some ⟨g, q * 256, none⟩), uq29.2.2, undef, undef, undef, undef]) rfl ?_
            refine hK41 _ _ ?_
            refine c_region (fun ops901604 hops901603 => ?_)
            clear hops901603
            refine p_run (l' := _) _ (x_arith (k := .i64) (m := (k : Int)) (n := 1) .add (((k + 1 : Nat) : Int)) rfl rfl rfl (show IntKind.i64.wrap ((k : Int) + 1) = ((k + 1 : Nat) : Int) from ((wr64 (by omega)).trans (by omega))) rfl) rfl ?_
            refine p_run (l' := _) _ (x_move (.int .i64 ((k + 1 : Nat) : Int)) rfl rfl) rfl ?_
            refine wpList_nil ?_
            refine fr_at (l' := [.agg ([.slice As R.stable.length cs, vb, .slice (some ad) R.pending.length cp, .bool R.counted, .int .i64 R.left, .bool R.down] : List Value).toArray, .slice (some ak) keep.length c, .pointer (some ⟨g5, 0, none⟩), undef, .pointer (some ⟨g8, 0, none⟩), .slice (some ⟨g, 0, none⟩) R.stable.length c2, .int .i64 (k : Int), .pointer (some ⟨g46, 0, none⟩), v15, .pointer (some ⟨g5, 0, none⟩), .slice As R.stable.length cs, .slice (some ⟨g, 0, none⟩) R.stable.length c2, .pointer (some ⟨g5, 2, none⟩), .slice (some ad) R.pending.length cp, .int .i64 (R.pending.length : Int), .int .i64 ((k + 1 : Nat) : Int), .bool (decide ((k : Int) < (R.pending.length : Int))), .int .i64 (k : Int), .pointer (some ((ad).add (k * 257))), .agg (Value.int .i64 (q : Int) :: (nums .u8 xp)).toArray, .int .i64 (k : Int), .slice (some ak) keep.length c, .int .i64 (keep.length : Int), .bool true, .slice (some ⟨g, 0, none⟩) R.stable.length c2, .pointer (some ⟨g46, 0, none⟩), .int .i64 (q : Int), .slice (some ⟨g, 0, none⟩) R.stable.length c2, .pointer (some ⟨g46, 0, none⟩), .int .i64 (q : Int), .pointer (some ⟨g, q * 256, none⟩), .agg ((nums .u8 O)).toArray, .pointer (some ⟨g46, 1, none⟩), .agg ((nums .u8 xp)).toArray, .slice (some ak) keep.length c, .int .i64 (k : Int), .pointer (some ((ak).add (k * 1))), .int .u8 (maskOf keep k), .agg ((nums .u8 (mixS (maskOf keep k) O xp 8))).toArray, .pointer (some ⟨g, q * 256, none⟩), .int .i64 ((k + 1 : Nat) : Int), undef, undef, undef, undef]) rfl ?_
            rw [show (stN keep R k).set q (mixS (maskOf keep k) O xp 8) = stN keep R (k + 1) from by rw [st_step hx]; show _ = List.set _ ((q : Int)).toNat _; rw [Int.toNat_natCast, hOd]] at HS
            refine hJ31 (k + 1) _ _ ?_ ?_
            · show R.pending.length - (k + 1) < R.pending.length - k; omega
            · exact ⟨(.int .i64 (k : Int), .pointer (some ⟨g46, 0, none⟩), .bool (decide ((k : Int) < (R.pending.length : Int))), .int .i64 (k : Int), .pointer (some ((ad).add (k * 257))), .agg (Value.int .i64 (q : Int) :: (nums .u8 xp)).toArray), (.int .i64 (k : Int), .slice (some ak) keep.length c, .int .i64 (keep.length : Int), .bool true, .slice (some ⟨g, 0, none⟩) R.stable.length c2, .pointer (some ⟨g46, 0, none⟩)), (.int .i64 (q : Int), .slice (some ⟨g, 0, none⟩) R.stable.length c2, .pointer (some ⟨g46, 0, none⟩), .int .i64 (q : Int), .pointer (some ⟨g, q * 256, none⟩), .agg ((nums .u8 O)).toArray), (.pointer (some ⟨g46, 1, none⟩), .agg ((nums .u8 xp)).toArray, .slice (some ak) keep.length c, .int .i64 (k : Int), .pointer (some ((ak).add (k * 1))), .int .u8 (maskOf keep k)), (.agg ((nums .u8 (mixS (maskOf keep k) O xp 8))).toArray, .pointer (some ⟨g, q * 256, none⟩), .int .i64 ((k + 1 : Nat) : Int)), rfl, (((((((HS.front 1 rfl).drop.front 5 rfl).front 5 rfl).front 5 rfl).front 5 rfl).front 5 rfl).front 5 rfl), (by omega)⟩
          · skip
            refine c_region (fun ops901606 hops901605 => ?_)
            clear hops901605
            refine p_run (l' := _) _ (x_move (.int .i64 (k : Int)) rfl rfl) rfl ?_
            refine p_run (l' := _) _ (x_move (.slice A keep.length c) rfl rfl) rfl ?_
            refine p_run (l' := _) _ (x_len rfl rfl Try.underlying36) rfl ?_
            refine p_run (l' := [.agg ([.slice As R.stable.length cs, vb, .slice (some ad) R.pending.length cp, .bool R.counted, .int .i64 R.left, .bool R.down] : List Value).toArray, .slice A keep.length c, .pointer (some ⟨g5, 0, none⟩), undef, .pointer (some ⟨g8, 0, none⟩), .slice (some ⟨g, 0, none⟩) R.stable.length c2, .int .i64 (k : Int), .pointer (some ⟨g46, 0, none⟩), v15, .pointer (some ⟨g5, 0, none⟩), .slice As R.stable.length cs, .slice (some ⟨g, 0, none⟩) R.stable.length c2, .pointer (some ⟨g5, 2, none⟩), .slice (some ad) R.pending.length cp, .int .i64 (R.pending.length : Int), .int .i64 (k : Int), .bool (decide ((k : Int) < (R.pending.length : Int))), .int .i64 (k : Int), .pointer (some ((ad).add (k * 257))), .agg (Value.int .i64 (q : Int) :: (nums .u8 xp)).toArray, .int .i64 (k : Int), .slice A keep.length c, .int .i64 (keep.length : Int), .bool false, uq26.2.2.2.2.1, uq26.2.2.2.2.2, uq27.1, uq27.2.1, uq27.2.2.1, uq27.2.2.2.1, uq27.2.2.2.2.1, uq27.2.2.2.2.2, uq28.1, uq28.2.1, uq28.2.2.1, uq28.2.2.2.1, uq28.2.2.2.2.1, uq28.2.2.2.2.2, uq29.1, uq29.2.1, uq29.2.2, undef, undef, undef, undef]) _ (x_cmp (k := .i64) (m := (k : Int)) (n := (keep.length : Int)) .lss false rfl rfl rfl (decide_eq_false (by omega)) rfl) rfl ?_
            refine wpList_nil ?_
            refine hK51 _ _ ?_
            refine c_false rfl ?_
            refine wp_skip ?_
            refine hK41 _ _ ?_
            refine c_region (fun ops901608 hops901607 => ?_)
            clear hops901607
            refine p_run (l' := _) _ (x_arith (k := .i64) (m := (k : Int)) (n := 1) .add (((k + 1 : Nat) : Int)) rfl rfl rfl (show IntKind.i64.wrap ((k : Int) + 1) = ((k + 1 : Nat) : Int) from ((wr64 (by omega)).trans (by omega))) rfl) rfl ?_
            refine p_run (l' := _) _ (x_move (.int .i64 ((k + 1 : Nat) : Int)) rfl rfl) rfl ?_
            refine wpList_nil ?_
            refine fr_at (l' := [.agg ([.slice As R.stable.length cs, vb, .slice (some ad) R.pending.length cp, .bool R.counted, .int .i64 R.left, .bool R.down] : List Value).toArray, .slice A keep.length c, .pointer (some ⟨g5, 0, none⟩), undef, .pointer (some ⟨g8, 0, none⟩), .slice (some ⟨g, 0, none⟩) R.stable.length c2, .int .i64 (k : Int), .pointer (some ⟨g46, 0, none⟩), v15, .pointer (some ⟨g5, 0, none⟩), .slice As R.stable.length cs, .slice (some ⟨g, 0, none⟩) R.stable.length c2, .pointer (some ⟨g5, 2, none⟩), .slice (some ad) R.pending.length cp, .int .i64 (R.pending.length : Int), .int .i64 ((k + 1 : Nat) : Int), .bool (decide ((k : Int) < (R.pending.length : Int))), .int .i64 (k : Int), .pointer (some ((ad).add (k * 257))), .agg (Value.int .i64 (q : Int) :: (nums .u8 xp)).toArray, .int .i64 (k : Int), .slice A keep.length c, .int .i64 (keep.length : Int), .bool false, uq26.2.2.2.2.1, uq26.2.2.2.2.2, uq27.1, uq27.2.1, uq27.2.2.1, uq27.2.2.2.1, uq27.2.2.2.2.1, uq27.2.2.2.2.2, uq28.1, uq28.2.1, uq28.2.2.1, uq28.2.2.2.1, uq28.2.2.2.2.1, uq28.2.2.2.2.2, uq29.1, uq29.2.1, .int .i64 ((k + 1 : Nat) : Int), undef, undef, undef, undef]) rfl ?_
            rw [← st_skip (keep := keep) hx (by omega) (by show ((q : Int)).toNat < _; rw [Int.toNat_natCast]; exact hqs)] at HS
            refine hJ31 (k + 1) _ _ ?_ ?_
            · show R.pending.length - (k + 1) < R.pending.length - k; omega
            · exact ⟨(.int .i64 (k : Int), .pointer (some ⟨g46, 0, none⟩), .bool (decide ((k : Int) < (R.pending.length : Int))), .int .i64 (k : Int), .pointer (some ((ad).add (k * 257))), .agg (Value.int .i64 (q : Int) :: (nums .u8 xp)).toArray), (.int .i64 (k : Int), .slice A keep.length c, .int .i64 (keep.length : Int), .bool false, uq26.2.2.2.2.1, uq26.2.2.2.2.2), uq27, uq28, (uq29.1, uq29.2.1, .int .i64 ((k + 1 : Nat) : Int)), rfl, ((((((HS.drop.front 5 rfl).front 5 rfl).front 5 rfl).front 5 rfl).front 5 rfl).front 5 rfl), (by omega)⟩
        · obtain rfl : R.pending.length = k := by have := of_decide_eq_false hc39; omega
          refine wp_exit ?_
          refine hK20 _ _ ?_
          refine wp_seq_k (fun K901609 hK901610 => ?_)
          refine c_region (fun ops901612 hops901611 => ?_)
          clear hops901611
          refine p_run (l' := _) _ (x_move (.slice (some ⟨g, 0, none⟩) R.stable.length c2) rfl rfl) rfl ?_
          refine p_run (l' := _) _ (x_field (j := 0) _ _ rfl rfl Try.underlying51 rfl (by rfl) rfl) rfl ?_
          refine St.store (cs' := [.slice (some ⟨g, 0, none⟩) R.stable.length c2, vb, .slice Ap R.pending.length cp, .bool R.counted, .int .i64 R.left, .bool R.down]) (HS.front 2 rfl) (.slice (some ⟨g, 0, none⟩) R.stable.length c2) rfl rfl rfl (by kernel_rfl) (by rfl) rfl ?_
          clear HS
          intro w901613 HS
          refine wpList_nil ?_
          refine fr_at (l' := [.agg ([.slice As R.stable.length cs, vb, .slice Ap R.pending.length cp, .bool R.counted, .int .i64 R.left, .bool R.down] : List Value).toArray, .slice A keep.length c, .pointer (some ⟨g5, 0, none⟩), undef, .pointer (some ⟨g8, 0, none⟩), .slice (some ⟨g, 0, none⟩) R.stable.length c2, uq25.1, uq25.2.1, v15, .pointer (some ⟨g5, 0, none⟩), .slice As R.stable.length cs, .slice (some ⟨g, 0, none⟩) R.stable.length c2, .pointer (some ⟨g5, 2, none⟩), .slice Ap R.pending.length cp, .int .i64 (R.pending.length : Int), .int .i64 (R.pending.length : Int), .bool (decide ((R.pending.length : Int) < (R.pending.length : Int))), uq25.2.2.2.1, uq25.2.2.2.2.1, uq25.2.2.2.2.2, uq26.1, uq26.2.1, uq26.2.2.1, uq26.2.2.2.1, uq26.2.2.2.2.1, uq26.2.2.2.2.2, uq27.1, uq27.2.1, uq27.2.2.1, uq27.2.2.2.1, uq27.2.2.2.2.1, uq27.2.2.2.2.2, uq28.1, uq28.2.1, uq28.2.2.1, uq28.2.2.2.1, uq28.2.2.2.2.1, uq28.2.2.2.2.2, uq29.1, uq29.2.1, uq29.2.2, .slice (some ⟨g, 0, none⟩) R.stable.length c2, .pointer (some ⟨g5, 0, none⟩), undef, undef]) rfl ?_
          refine hK901610 _ _ ?_
          refine wp_seq_k (fun K901614 hK901615 => ?_)
          refine c_region (fun ops901617 hops901616 => ?_)
          clear hops901616
          refine p_run (l' := _) _ (x_field (j := 2) _ _ rfl rfl Try.underlying51 rfl (by rfl) rfl) rfl ?_
          refine St.store (cs' := [.slice (some ⟨g, 0, none⟩) R.stable.length c2, vb, .slice none 0 0, .bool R.counted, .int .i64 R.left, .bool R.down]) HS (.slice none 0 0) rfl rfl rfl (by kernel_rfl) (by rfl) rfl ?_
          clear HS
          intro w901618 HS
          refine wpList_nil ?_
          refine fr_at (l' := [.agg ([.slice As R.stable.length cs, vb, .slice Ap R.pending.length cp, .bool R.counted, .int .i64 R.left, .bool R.down] : List Value).toArray, .slice A keep.length c, .pointer (some ⟨g5, 0, none⟩), undef, .pointer (some ⟨g8, 0, none⟩), .slice (some ⟨g, 0, none⟩) R.stable.length c2, uq25.1, uq25.2.1, v15, .pointer (some ⟨g5, 0, none⟩), .slice As R.stable.length cs, .slice (some ⟨g, 0, none⟩) R.stable.length c2, .pointer (some ⟨g5, 2, none⟩), .slice Ap R.pending.length cp, .int .i64 (R.pending.length : Int), .int .i64 (R.pending.length : Int), .bool (decide ((R.pending.length : Int) < (R.pending.length : Int))), uq25.2.2.2.1, uq25.2.2.2.2.1, uq25.2.2.2.2.2, uq26.1, uq26.2.1, uq26.2.2.1, uq26.2.2.2.1, uq26.2.2.2.2.1, uq26.2.2.2.2.2, uq27.1, uq27.2.1, uq27.2.2.1, uq27.2.2.2.1, uq27.2.2.2.2.1, uq27.2.2.2.2.2, uq28.1, uq28.2.1, uq28.2.2.1, uq28.2.2.2.1, uq28.2.2.2.2.1, uq28.2.2.2.2.2, uq29.1, uq29.2.1, uq29.2.2, .slice (some ⟨g, 0, none⟩) R.stable.length c2, .pointer (some ⟨g5, 0, none⟩), .pointer (some ⟨g5, 2, none⟩), undef]) rfl ?_
          refine hK901615 _ _ ?_
          refine wp_seq_k (fun K901619 hK901620 => ?_)
          refine c_region (fun ops901622 hops901621 => ?_)
          clear hops901621
          refine p_run (l' := _) _ (x_loads [.slice (some ⟨g, 0, none⟩) R.stable.length c2, vb, .slice none 0 0, .bool R.counted, .int .i64 R.left, .bool R.down] 6 rfl rfl (bkCells (HS.get (.head _)) 0 _ rfl) (by rfl) (by kernel_rfl) rfl) rfl ?_
          refine St.stores (cs' := [.slice (some ⟨g, 0, none⟩) R.stable.length c2, vb, .slice none 0 0, .bool R.counted, .int .i64 R.left, .bool R.down]) (HS.front 2 rfl) [.slice (some ⟨g, 0, none⟩) R.stable.length c2, vb, .slice none 0 0, .bool R.counted, .int .i64 R.left, .bool R.down] 6 rfl rfl (all1 rfl (all1 (row_one (HS.get (.tail _ (.tail _ (.tail _ (.tail _ (.head _))))))) (all1 rfl (all1 rfl (all1 rfl (all1 rfl rfl)))))) (by kernel_rfl) rfl (by simp) rfl ?_
          clear HS
          intro w901623 HS
          refine wpList_nil ?_
          refine fr_at (l' := [.agg ([.slice As R.stable.length cs, vb, .slice Ap R.pending.length cp, .bool R.counted, .int .i64 R.left, .bool R.down] : List Value).toArray, .slice A keep.length c, .pointer (some ⟨g5, 0, none⟩), undef, .pointer (some ⟨g8, 0, none⟩), .slice (some ⟨g, 0, none⟩) R.stable.length c2, uq25.1, uq25.2.1, v15, .pointer (some ⟨g5, 0, none⟩), .slice As R.stable.length cs, .slice (some ⟨g, 0, none⟩) R.stable.length c2, .pointer (some ⟨g5, 2, none⟩), .slice Ap R.pending.length cp, .int .i64 (R.pending.length : Int), .int .i64 (R.pending.length : Int), .bool (decide ((R.pending.length : Int) < (R.pending.length : Int))), uq25.2.2.2.1, uq25.2.2.2.2.1, uq25.2.2.2.2.2, uq26.1, uq26.2.1, uq26.2.2.1, uq26.2.2.2.1, uq26.2.2.2.2.1, uq26.2.2.2.2.2, uq27.1, uq27.2.1, uq27.2.2.1, uq27.2.2.2.1, uq27.2.2.2.2.1, uq27.2.2.2.2.2, uq28.1, uq28.2.1, uq28.2.2.1, uq28.2.2.2.1, uq28.2.2.2.2.1, uq28.2.2.2.2.2, uq29.1, uq29.2.1, uq29.2.2, .slice (some ⟨g, 0, none⟩) R.stable.length c2, .pointer (some ⟨g5, 0, none⟩), .pointer (some ⟨g5, 2, none⟩), .agg ([.slice (some ⟨g, 0, none⟩) R.stable.length c2, vb, .slice none 0 0, .bool R.counted, .int .i64 R.left, .bool R.down] : List Value).toArray]) rfl ?_
          refine hK901620 _ _ ?_
          refine wp_ret ?_
          try simp only [Exit.inBlock, Exit.then]
          refine c_ret (.agg ([.slice (some ⟨g, 0, none⟩) R.stable.length c2, vb, .slice none 0 0, .bool R.counted, .int .i64 R.left, .bool R.down] : List Value).toArray) (r_c rfl rfl (run_loadVar_aggn (by rfl) [.slice (some ⟨g, 0, none⟩) R.stable.length c2, vb, .slice none 0 0, .bool R.counted, .int .i64 R.left, .bool R.down] 6 (by kernel_rfl) rfl (bkCells (HS.get (.head _)) 0 _ (whole _)))) ?_
          replace HS := (HS.front 2 rfl)
          obtain ⟨hsT, hsl2⟩ := st_ok (keep := keep) hT hpd R.pending.length
          replace HS := HS.alter (pg_row (hE := rfl) HS.hs.head (by omega) hc2 (by rw [List.length_append, pgs_length _ hsT, hsl2, ← pgs_length _ hT, ← List.length_append]; exact hc3) hsT) (fun b h => (Option.some.inj (show some g = some b from h)).symm)
          rw [hsl2, st_all] at HS
          replace HS := HS.nil kWr rfl 74
          exact ⟨_, rfl, ((((((HS.front 2 rfl).drop.front 2 rfl).drop.front 2 rfl).drop.front 3 rfl).drop.front 2 rfl).front 2 rfl)⟩
end
end Go.Proofs.Ytjholgfaipfmbaa
