/- Packets in a row: numbers with slices. -/
import Derived.Test.YtckfcnclekjjdaaWkC
set_option linter.unusedVariables false
set_option linter.unusedSimpArgs false
namespace Go.Proofs.Ytckfcnclekjjdaa
open Go.RowKit Go.Proofs.YtckfcnclekjjdaaW.PrintWords Go.Proofs.YtckfcnclekjjdaaW.PrintLast
/-- The cells of packets. -/
def pkC (ps : List (Int × Value)) : List Value := ps.flatMap (fun p => [.int .i64 p.1, p.2])
def pkP (x : Int × Value) (cs : List Value) : Prop := cs = [.int .i64 x.1, x.2] ∧ x.2.oneCell' = true
def kPk : Kd (Int × Value) := flatK 2 pkP (fun x cs h => by rw [h.1]; rfl) (fun x cs h u hu => by
  rw [h.1] at hu
  rcases List.mem_cons.1 hu with rfl | hu
  · rfl
  · obtain rfl := List.mem_singleton.1 hu
    exact h.2)
section
variable {w : World} {ps qs : List (Int × Value)} {p : Int × Value} {i g c : Nat} {sp : List Value} {e : TypeId} {v : Value}
theorem pkC_length (ps : List (Int × Value)) : (pkC ps).length = ps.length * 2 := by
  unfold pkC
  induction ps with
  | nil => rfl
  | cons p ps ih => rw [List.flatMap_cons, List.length_append, ih, List.length_cons]; simp; omega
theorem pkC_append (ps qs : List (Int × Value)) : pkC (ps ++ qs) = pkC ps ++ pkC qs := by unfold pkC; rw [List.flatMap_append]
theorem pkC_split (h : ps[i]? = some p) : pkC ps = pkC (ps.take i) ++ ([.int .i64 p.1, p.2] ++ pkC (ps.drop (i + 1))) := by
  obtain ⟨hi, rfl⟩ := List.getElem?_eq_some_iff.1 h
  conv => lhs; rw [← List.take_append_drop i ps, List.drop_eq_getElem_cons hi, pkC_append]
  rfl
theorem pk_at (h : ps[i]? = some p) : ((pkC ps ++ sp).drop (i * 2)).take 2 = [.int .i64 p.1, p.2] := by
  have hi := (List.getElem?_eq_some_iff.1 h).1
  have hl : (pkC (ps.take i)).length = i * 2 := by rw [pkC_length, List.length_take]; omega
  rw [pkC_split h, List.append_assoc, List.drop_append_of_le_length (by omega), List.drop_of_length_le (by omega), List.nil_append]
  rfl
theorem pk_at0 (h : ps[i]? = some p) : (pkC ps ++ sp)[i * 2]? = some (.int .i64 p.1) := by
  have h1 := pk_at (sp := sp) h
  have h2 : (((pkC ps ++ sp).drop (i * 2)).take 2)[0]? = some (.int .i64 p.1) := by rw [h1]; rfl
  rwa [List.getElem?_take, if_pos (by decide), List.getElem?_drop, Nat.add_zero] at h2
theorem pk_at1 (h : ps[i]? = some p) : (pkC ps ++ sp)[i * 2 + 1]? = some p.2 := by
  have h1 := pk_at (sp := sp) h
  have h2 : (((pkC ps ++ sp).drop (i * 2)).take 2)[1]? = some p.2 := by rw [h1]; rfl
  rwa [List.getElem?_take, if_pos (by decide), List.getElem?_drop] at h2
theorem pk_set1 (h : ps[i]? = some p) (u : Value) : (pkC ps ++ sp).set (i * 2 + 1) u = pkC (ps.set i (p.1, u)) ++ sp := by
  have hi := (List.getElem?_eq_some_iff.1 h).1
  have hl : (pkC (ps.take i)).length = i * 2 := by rw [pkC_length, List.length_take]; omega
  have h2 : (ps.set i (p.1, u))[i]? = some (p.1, u) := List.getElem?_set_self hi
  rw [pkC_split h, pkC_split h2, List.take_set_of_le (Nat.le_refl _), List.drop_set_of_lt (by omega), List.append_assoc, List.set_append, if_neg (by omega), hl, Nat.add_sub_cancel_left, List.append_assoc, List.append_assoc]
  rfl
theorem reps_pk : ∀ (ps : List (Int × Value)) (inner : List Value), Reps pkP 2 ps inner → inner = pkC ps ∧ ∀ p ∈ ps, p.2.oneCell' = true
  | [], inner, h => ⟨List.eq_nil_of_length_eq_zero (by simpa using h.1), fun p hp => by cases hp⟩
  | p :: ps, inner, h => by
    have h0 := h.2 0 p rfl
    rw [Nat.zero_mul, List.drop_zero] at h0
    have ht : Reps pkP 2 ps (inner.drop 2) := ⟨by rw [List.length_drop, h.1, List.length_cons]; omega, fun j q hq => by
      have := h.2 (j + 1) q (by simpa using hq)
      rw [List.drop_drop, show 2 + j * 2 = (j + 1) * 2 by omega]
      exact this⟩
    obtain ⟨e1, e2⟩ := reps_pk ps _ ht
    refine ⟨?_, fun q hq => ?_⟩
    · rw [← List.take_append_drop 2 inner, h0.1, e1]
      rfl
    · rcases List.mem_cons.1 hq with rfl | hq
      · exact h0.2
      · exact e2 q hq
theorem reps_of (h : ∀ p ∈ ps, p.2.oneCell' = true) : Reps pkP 2 ps (pkC ps) := ⟨pkC_length ps, fun j p hj => ⟨by have := pk_at (sp := []) hj; rwa [List.append_nil] at this, h p (List.mem_of_getElem? hj)⟩⟩
/-- A row of packets that isn't empty, as a block. -/
theorem row_pk {hE : kPk.E = []} (h : (row kPk hE e v ps).holds w) (hn : ps ≠ []) : ∃ g c sp, v = .slice (some ⟨g, 0, none⟩) ps.length c ∧ (blk g (pkC ps ++ sp) e).holds w ∧ ps.length ≤ c ∧ c ≤ 9223372036854775807 ∧ (pkC ps ++ sp).length = c * 2 ∧ ∀ p ∈ ps, p.2.oneCell' = true := by
  have hpos : 0 < ps.length := by
    cases ps with
    | nil => exact absurd rfl hn
    | cons => simp
  obtain ⟨h0, inner, ho, hr⟩ := h
  obtain ⟨e1, e2⟩ := reps_pk ps inner hr
  subst e1
  rcases ho.2 with ⟨h2, h3⟩ | ⟨g', cap', cur, h2, hge, hg', hnc, hcm, hcs, htake⟩
  · omega
  · unfold maxLen at hcm
    have e3 : pkC ps ++ cur.toList.drop (ps.length * 2) = cur.toList := by
      have : cur.toList.take (ps.length * 2) = pkC ps := htake
      rw [← this, List.take_append_drop]
    refine ⟨g', cap', cur.toList.drop (ps.length * 2), h2, ?_, hnc, by omega, ?_, e2⟩
    · rw [e3]; show w.heap[g']? = _; simpa using hg'
    · rw [e3, Array.length_toList, hcs]; rfl
theorem pk_row {hE : kPk.E = []} (h : (blk g (pkC ps ++ sp) e).holds w) (h1 : ps.length ≤ c) (h2 : c ≤ 9223372036854775807) (h3 : (pkC ps ++ sp).length = c * 2) (h4 : ∀ p ∈ ps, p.2.oneCell' = true) : (row kPk hE e (.slice (some ⟨g, 0, none⟩) ps.length c) ps).holds w := by
  refine rowOf_ (base := 0) (ok := fun _ => True) ⟨fun _ _ => trivial, pkC ps, ⟨pkC_length ps, .inr ⟨g, c, (pkC ps ++ sp).toArray, rfl, Nat.zero_le _, h, h1, by unfold maxLen; omega, by rw [List.size_toArray, h3]; rfl, ?_⟩⟩, reps_of h4⟩
  show (pkC ps ++ sp).take (ps.length * 2) = pkC ps
  exact List.take_left' (pkC_length ps)
/-- What slices.Delete leaves. -/
theorem pk_del (hi : i < ps.length) : lay (lay (pkC ps ++ sp) (i * 2) (pkC (ps.drop (i + 1)))) ((ps.length - 1) * 2) [.int .i64 0, .slice none 0 0] = pkC (ps.eraseIdx i) ++ ([.int .i64 0, .slice none 0 0] ++ sp) := by
  have hA : (pkC (ps.take i)).length = i * 2 := by rw [pkC_length, List.length_take]; omega
  have hB : (pkC (ps.drop (i + 1))).length = (ps.length - (i + 1)) * 2 := by rw [pkC_length, List.length_drop]
  have hP := pkC_length ps
  have e1 : pkC (ps.eraseIdx i) = pkC (ps.take i) ++ pkC (ps.drop (i + 1)) := by rw [List.eraseIdx_eq_take_drop_succ, pkC_append]
  have e2 : (pkC ps ++ sp).take (i * 2) = pkC (ps.take i) := by
    rw [List.take_append_of_le_length (by omega), pkC_split (List.getElem?_eq_getElem hi), List.take_left' hA]
  rw [e1]
  have e3 : lay (pkC ps ++ sp) (i * 2) (pkC (ps.drop (i + 1))) = (pkC (ps.take i) ++ pkC (ps.drop (i + 1))) ++ ((pkC ps).drop ((ps.length - 1) * 2) ++ sp) := by
    unfold lay
    rw [e2, hB, List.drop_append_of_le_length (by omega), show i * 2 + (ps.length - (i + 1)) * 2 = (ps.length - 1) * 2 by omega]
  rw [e3]
  have hAB : (pkC (ps.take i) ++ pkC (ps.drop (i + 1))).length = (ps.length - 1) * 2 := by rw [List.length_append, hA, hB]; omega
  have hD : ((pkC ps).drop ((ps.length - 1) * 2)).length = 2 := by rw [List.length_drop, hP]; omega
  generalize pkC (ps.take i) ++ pkC (ps.drop (i + 1)) = X at hAB ⊢
  generalize (pkC ps).drop ((ps.length - 1) * 2) = Y at hD ⊢
  generalize (ps.length - 1) * 2 = N at hAB ⊢
  unfold lay
  have e4 : (X ++ (Y ++ sp)).drop (N + [Value.int .i64 0, Value.slice none 0 0].length) = sp := by
    rw [← List.append_assoc, List.drop_left' (by rw [List.length_append, hAB, hD]; rfl)]
  rw [List.take_left' hAB, e4, List.append_assoc]
end
end Go.Proofs.Ytckfcnclekjjdaa
