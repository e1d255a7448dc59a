/- LabelTells: the plain law. -/
import Derived.Test.YthohdcnhnopafaaDoorArgLabelTells
namespace Go.Proofs.YthohdcnhnopafaaDoor.PLabelTells
open Go.RowKit Go.Proofs.YthohdcnhnopafaaDoorW.PrintWords Go.Proofs.YthohdcnhnopafaaDoorW.PrintLast Go.Proofs.YthohdcnhnopafaaDoorW.PrintMore
theorem less_up (m x : S24) : ∃ b, understudyref03_Less.f m.f0 m.f1 x.f0 x.f1 = some b ∧ upL m x = if b = true then x else m := by
  unfold understudyref03_Less.f upL
  rw [cmpL_eq]
  by_cases h1 : m.f0 < x.f0
  · have h2 : ¬ x.f0 < m.f0 := by omega
    exact ⟨true, by simp [h1], by simp [h1, h2]⟩
  · by_cases h2 : m.f0 = x.f0
    · have h3 : ¬ x.f0 < m.f0 := by omega
      by_cases h4 : m.f1 < x.f1
      · have h5 : ¬ x.f1 < m.f1 := by omega
        exact ⟨true, by simp [h2, h4], by simp [h1, h3, h4, h5]⟩
      · refine ⟨false, by simp [h2, h4], ?_⟩
        by_cases h5 : x.f1 < m.f1 <;> simp [h1, h3, h4, h5]
    · have h3 : x.f0 < m.f0 := by omega
      exact ⟨false, by simp [h1, h2], by simp [h3]⟩
theorem ref_loop (l : List (S24)) (hl : l.length ≤ 100) (d : Nat) : ∀ (k i : Nat) (m : S24), l.length - i = d → i ≤ l.length →
    understudyref03_Last.l0 (k + d + 1) l (l.length : Int) (i : Int) m.f0 m.f1 = some (((l.drop i).foldl upL m).f0, ((l.drop i).foldl upL m).f1) := by
  induction d with
  | zero =>
    intro k i m hd hi
    have e : ¬ ((i : Int) < (l.length : Int)) := by omega
    simp only [understudyref03_Last.l0]
    rw [if_neg e, List.drop_eq_nil_of_le (by omega)]; rfl
  | succ d ih =>
    intro k i m hd hi
    have hlt : i < l.length := by omega
    have e : (i : Int) < (l.length : Int) := by omega
    have hw : wrap64 ((i : Int) + 1) = ((i + 1 : Nat) : Int) := by unfold wrap64; omega
    have hrd : rd_T24 l (i : Int) = l[i] := by unfold rd_T24; rw [List.getD_eq_getElem?_getD, Int.toNat_natCast, List.getElem?_eq_getElem hlt]; rfl
    have ih2 := fun m => ih k (i + 1) m (by omega) (by omega)
    obtain ⟨b, hb, hu⟩ := less_up m l[i]
    rw [List.drop_eq_getElem_cons hlt, List.foldl_cons, hu]
    rw [show k + (d + 1) + 1 = (k + d + 1) + 1 by omega]
    generalize k + d + 1 = K at *
    simp only [understudyref03_Last.l0]
    rw [if_pos e, if_pos (by omega), if_pos e, hrd, hw, hb]
    simp only [Option.bind_some]
    cases b
    · simp only [Bool.false_eq_true, if_false]; exact ih2 m
    · simp only [if_true]; exact ih2 _
theorem ref_last (l : List (S24)) (hl : l.length ≤ 100) (h : ∀ x ∈ l, G24 x) (k : Nat) : understudyref03_Last.f (k + l.length + 1) l = some ((lastL l).f0, (lastL l).f1) := by
  unfold understudyref03_Last.f
  have := ref_loop l hl l.length k 0 z24 (by omega) (by omega)
  rw [List.drop_zero] at this
  have e : l.foldl upL z24 = lastL l := by
    cases l with
    | nil => rfl
    | cons x l =>
      show l.foldl upL (upL z24 x) = l.foldl upL x
      have hx := h x (by simp)
      have : upL z24 x = x := by
        unfold upL
        split
        · rfl
        · rename_i hc
          rw [cmpL_eq] at hc
          have h0 : 0 ≤ x.f0 := hx.1.1
          have h1 : 0 ≤ x.f1 := hx.2.1
          have z0 : (z24).f0 = 0 := rfl
          have z1 : (z24).f1 = 0 := rfl
          rw [z0, z1] at hc
          have e0 : x.f0 = 0 := by
            by_cases a : 0 < x.f0
            · have b : ¬ x.f0 < 0 := by omega
              simp [a, b] at hc
            · omega
          have e1 : x.f1 = 0 := by
            by_cases a : 0 < x.f1
            · have b : ¬ x.f1 < 0 := by omega
              simp [e0, a, b] at hc
            · omega
          cases x
          simp only at e0 e1
          subst e0; subst e1; rfl
      rw [this]
  rw [e] at this
  exact this
theorem pure_law (y0 : S24) (_g0 : G24 y0) (y1 : S24) (_g1 : G24 y1) (y2 : List (S24)) (g2 : (y2.length ≤ 9223372036854775807 ∧ ∀ z1 ∈ y2, G24 z1)) : ∃ k, understudylaw03_LabelTells.f k y0.f0 y0.f1 y1.f0 y1.f1 y2 = some true := by
  refine ⟨2 + y2.length + 1, ?_⟩
  unfold understudylaw03_LabelTells.f
  rw [show understudylaw03_labelAlive.f (2 + y2.length + 1) = some true from by rw [show 2 + y2.length + 1 = y2.length + 3 by omega]; exact alive _, Option.bind_some, if_pos rfl]
  by_cases h : (y2.length : Int) > 100
  · rw [if_pos h]
  · rw [if_neg h, ref_last y2 (by omega) g2.2 2, Option.bind_some, if_pos rfl]
end Go.Proofs.YthohdcnhnopafaaDoor.PLabelTells
