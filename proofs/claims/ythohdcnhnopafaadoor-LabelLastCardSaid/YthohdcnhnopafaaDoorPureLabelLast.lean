/- LabelLast: the plain law. -/
import Derived.Test.YthohdcnhnopafaaDoorArgLabelLast
namespace Go.Proofs.YthohdcnhnopafaaDoor.PLabelLast
open Go.RowKit Go.Proofs.YthohdcnhnopafaaDoorW.PrintWords Go.Proofs.YthohdcnhnopafaaDoorW.PrintLast Go.Proofs.YthohdcnhnopafaaDoorW.PrintMore
theorem text_26 : label_Text.f 2 6 = some ⟨#[50, 46, 54]⟩ := by decide +kernel
theorem text_30 : label_Text.f 3 0 = some ⟨#[51, 46, 48]⟩ := by decide +kernel
theorem chars_26 : ((⟨#[50, 46, 54]⟩ : ByteArray).toList = ([50, 46, 54] : List UInt8)) = True := eq_true (by decide +kernel)
theorem chars_30 : ((⟨#[51, 46, 48]⟩ : ByteArray).toList = ([51, 46, 48] : List UInt8)) = True := eq_true (by decide +kernel)
theorem next_25 : label_Next.f 2 5 = some (2, 6, 0) := by decide +kernel
theorem rise_25 : label_Rise.f 2 5 = some (3, 0, 0) := by decide +kernel
theorem alive (k : Nat) : understudylaw03_labelAlive.f (k + 3) = some true := by
  unfold understudylaw03_labelAlive.f
  simp only [next_25, rise_25, Option.bind_some, if_true, text_26, text_30, chars_26, chars_30, label_cmp]
  decide +kernel
/-- Can it be? -/
def rightL (a0 a1 : Int) : Bool := decide (a0 ≤ 1048576) && decide (a1 ≤ 1048576)
theorem label_right (a0 a1 : Int) : label_Right.f a0 a1 = some (rightL a0 a1) := by
  unfold label_Right.f rightL
  by_cases h : a0 ≤ 1048576 <;> simp [h]
def nextL (a0 a1 : Int) : Int × Int × Int := if rightL a0 a1 then (if a1 = 1048576 then (0, 0, 32) else (a0, a1 + 1, 0)) else (0, 0, 31)
theorem label_next (a0 a1 : Int) (h : 0 ≤ a1) : label_Next.f a0 a1 = some (nextL a0 a1) := by
  unfold label_Next.f nextL
  rw [label_right, Option.bind_some]
  by_cases hr : rightL a0 a1 = true
  · rw [if_pos hr, if_pos hr]
    by_cases h1 : a1 = 1048576
    · rw [if_pos h1, if_pos h1]
    · rw [if_neg h1, if_neg h1]
      have : a1 ≤ 1048576 := by unfold rightL at hr; simp at hr; omega
      rw [show (a1 + 1) % 4294967296 = a1 + 1 by omega]
  · rw [if_neg hr, if_neg hr]
def riseL (a0 a1 : Int) : Int × Int × Int := if rightL a0 a1 then (if a0 = 1048576 then (0, 0, 33) else (a0 + 1, 0, 0)) else (0, 0, 31)
theorem label_rise (a0 a1 : Int) (h : 0 ≤ a0) : label_Rise.f a0 a1 = some (riseL a0 a1) := by
  unfold label_Rise.f riseL
  rw [label_right, Option.bind_some]
  by_cases hr : rightL a0 a1 = true
  · rw [if_pos hr, if_pos hr]
    by_cases h1 : a0 = 1048576
    · rw [if_pos h1, if_pos h1]
    · rw [if_neg h1, if_neg h1]
      have : a0 ≤ 1048576 := by unfold rightL at hr; simp at hr; omega
      rw [show (a0 + 1) % 4294967296 = a0 + 1 by omega]
  · rw [if_neg hr, if_neg hr]
/-- Is a label not above another one? -/
def leL (x y : S24) : Prop := x.f0 < y.f0 ∨ (x.f0 = y.f0 ∧ x.f1 ≤ y.f1)
theorem leL_iff (x y : S24) : ¬ 0 < cmpL x.f0 x.f1 y.f0 y.f1 ↔ leL x y := by
  rw [cmpL_eq]; unfold leL
  constructor
  · intro h
    by_cases h1 : x.f0 < y.f0
    · exact Or.inl h1
    · by_cases h2 : y.f0 < x.f0
      · simp [h1, h2] at h
      · by_cases h3 : x.f1 < y.f1
        · exact Or.inr ⟨by omega, by omega⟩
        · by_cases h4 : y.f1 < x.f1
          · simp [h1, h2, h3, h4] at h
          · exact Or.inr ⟨by omega, by omega⟩
  · rintro (h1 | ⟨h1, h2⟩)
    · simp [h1]
    · have a1 : ¬ x.f0 < y.f0 := by omega
      have a2 : ¬ y.f0 < x.f0 := by omega
      by_cases h3 : x.f1 < y.f1
      · simp [a1, a2, h3]
      · have a4 : ¬ y.f1 < x.f1 := by omega
        simp [a1, a2, h3, a4]
theorem leL_refl (x : S24) : leL x x := by unfold leL; omega
theorem leL_trans {x y z : S24} (h : leL x y) (k : leL y z) : leL x z := by unfold leL at *; omega
theorem leL_anti {x y : S24} (h : leL x y) (k : leL y x) : x = y := by
  cases x; cases y
  unfold leL at *
  simp only at h k
  congr 1 <;> omega
theorem up_le (m x : S24) : leL m (upL m x) ∧ leL x (upL m x) ∧ (upL m x = m ∨ upL m x = x) := by
  unfold upL
  by_cases h : 0 < cmpL x.f0 x.f1 m.f0 m.f1
  · rw [if_pos h]
    refine ⟨?_, leL_refl _, Or.inr rfl⟩
    rw [cmpL_eq] at h
    unfold leL
    by_cases h1 : x.f0 < m.f0
    · simp [h1] at h
    · by_cases h2 : m.f0 < x.f0
      · exact Or.inl h2
      · by_cases h3 : x.f1 < m.f1
        · simp [h1, h2, h3] at h
        · exact Or.inr ⟨by omega, by omega⟩
  · rw [if_neg h]
    exact ⟨leL_refl _, (leL_iff x m).1 h, Or.inl rfl⟩
theorem fold_up (l : List (S24)) : ∀ m, leL m (l.foldl upL m) ∧ (∀ x ∈ l, leL x (l.foldl upL m)) ∧ (l.foldl upL m = m ∨ l.foldl upL m ∈ l) := by
  induction l with
  | nil => intro m; exact ⟨leL_refl m, by simp, Or.inl rfl⟩
  | cons a l ih =>
    intro m
    obtain ⟨h1, h2, h3⟩ := ih (upL m a)
    obtain ⟨u1, u2, u3⟩ := up_le m a
    refine ⟨leL_trans u1 h1, fun x hx => ?_, ?_⟩
    · rcases List.mem_cons.1 hx with rfl | hx
      · exact leL_trans u2 h1
      · exact h2 x hx
    · rw [List.foldl_cons]
      rcases h3 with h3 | h3
      · rw [h3]
        rcases u3 with u3 | u3
        · exact Or.inl u3
        · rw [u3]; exact Or.inr (by simp)
      · exact Or.inr (by simp [h3])
theorem last_up (l : List (S24)) : (∀ x ∈ l, leL x (lastL l)) ∧ (l = [] ∨ lastL l ∈ l) := by
  cases l with
  | nil => exact ⟨by simp, Or.inl rfl⟩
  | cons a l =>
    obtain ⟨h1, h2, h3⟩ := fold_up l a
    refine ⟨fun x hx => ?_, Or.inr ?_⟩
    · rcases List.mem_cons.1 hx with rfl | hx
      · exact h1
      · exact h2 x hx
    · show l.foldl upL a ∈ a :: l
      rcases h3 with h3 | h3
      · rw [h3]; simp
      · simp [h3]
theorem last_perm (l : List (S24)) (n : Nat) : lastL ([] ++ l.drop n ++ l.take n) = lastL l := by
  rw [List.nil_append]
  obtain ⟨a1, a2⟩ := last_up l
  obtain ⟨b1, b2⟩ := last_up (l.drop n ++ l.take n)
  have hm : ∀ x, x ∈ l.drop n ++ l.take n ↔ x ∈ l := by
    intro x
    rw [List.mem_append, or_comm, ← List.mem_append, List.take_append_drop]
  rcases a2 with rfl | a2
  · simp
  · rcases b2 with b2 | b2
    · exfalso
      have := (hm (lastL l)).2 a2
      rw [b2] at this; simp at this
    · exact leL_anti (a1 _ ((hm _).1 b2)) (b1 _ ((hm _).2 a2))
theorem loop_tells (y0 : List (S24)) (hl : y0.length ≤ 100) (m : S24) (hle : ∀ x ∈ y0, leL x m) (d : Nat) : ∀ (k : Nat) (b : Bool) (i : Nat), y0.length - i = d → i ≤ y0.length → (b = true ∨ ∃ j, i ≤ j ∧ y0[j]? = some m) →
    understudylaw03_LabelLast.l0 (k + d + 4) b y0 (y0.length : Int) (i : Int) m.f0 m.f1 = some true := by
  induction d with
  | zero =>
    intro k b i hd hi hb
    have e : ¬ ((i : Int) < (y0.length : Int)) := by omega
    simp only [understudylaw03_LabelLast.l0]
    rw [if_neg e]
    rcases hb with rfl | ⟨j, hj, hx⟩
    · rfl
    · have := (List.getElem?_eq_some_iff.1 hx).1
      omega
  | succ d ih =>
    intro k b i hd hi hb
    have hlt : i < y0.length := by omega
    have e : (i : Int) < (y0.length : Int) := by omega
    have hw : wrap64 ((i : Int) + 1) = ((i + 1 : Nat) : Int) := by unfold wrap64; omega
    have hrd : rd_T24 y0 (i : Int) = y0[i] := by unfold rd_T24; rw [List.getD_eq_getElem?_getD, Int.toNat_natCast, List.getElem?_eq_getElem hlt]; rfl
    have hnl := (leL_iff y0[i] m).2 (hle _ (List.getElem_mem hlt))
    have e2 : k + (d + 1) + 4 = (k + d + 4) + 1 := by omega
    have hcp := label_cmp (k + d + 1) y0[i].f0 y0[i].f1 m.f0 m.f1
    have ih2 := ih k
    rw [e2]
    rw [show k + d + 1 + 3 = k + d + 4 by omega] at hcp
    generalize k + d + 4 = K at *
    simp only [understudylaw03_LabelLast.l0]
    rw [if_pos e, if_pos (by omega), if_pos e, hrd, hw, hcp]
    by_cases hbt : b = true
    · subst hbt
      simp only [if_true]
      simp only [Option.bind_some]
      rw [if_neg (by omega)]
      exact ih2 true (i + 1) (by omega) (by omega) (Or.inl rfl)
    · rw [if_neg hbt]
      have hnext : understudylaw03_LabelLast.l0 K (y0[i].f0 == m.f0 && (y0[i].f1 == m.f1)) y0 (y0.length : Int) ((i + 1 : Nat) : Int) m.f0 m.f1 = some true := by
        refine ih2 _ (i + 1) (by omega) (by omega) ?_
        by_cases hx : y0[i] = m
        · left; rw [hx]; simp
        · right
          rcases hb with hb | ⟨j, hj, hxj⟩
          · exact absurd hb hbt
          · refine ⟨j, ?_, hxj⟩
            rcases Nat.eq_or_lt_of_le hj with rfl | h
            · rw [List.getElem?_eq_getElem hlt] at hxj
              exact absurd (Option.some.inj hxj) hx
            · omega
      simp only [Option.bind_some]
      rw [if_neg (by omega), hnext]
theorem pure_law (y0 : List (S24)) (_g0 : (y0.length ≤ 9223372036854775807 ∧ ∀ y ∈ y0, G24 y)) (a1 : Int) (_g1 : (-9223372036854775808 ≤ a1 ∧ a1 ≤ 9223372036854775807)) : ∃ k, understudylaw03_LabelLast.f k y0 a1 = some true := by
  refine ⟨(0 + y0.length + 4) + 2, ?_⟩
  unfold understudylaw03_LabelLast.f
  rw [show 0 + y0.length + 4 + 2 = (y0.length + 3) + 3 by omega, alive, Option.bind_some, if_pos rfl]
  rw [show (y0.length + 3) + 3 = (0 + y0.length + 4 + 1) + 1 by omega]
  by_cases h1 : (y0.length : Int) > 100
  · rw [if_pos h1]; simp [understudylaw03_LabelLast.j0]
  · rw [if_neg h1]
    by_cases h2 : a1 < 0
    · rw [if_pos h2]; simp [understudylaw03_LabelLast.j0]
    · rw [if_neg h2]
      by_cases h3 : a1 > (y0.length : Int)
      · rw [decide_eq_true h3]; simp [understudylaw03_LabelLast.j0]
      · rw [decide_eq_false h3]
        obtain ⟨n, rfl⟩ := Int.eq_ofNat_of_zero_le (Int.not_lt.1 h2)
        simp only [understudylaw03_LabelLast.j0, Bool.false_eq_true, if_false]
        obtain ⟨c1, c2⟩ := last_up y0
        have hp := last_perm y0 n
        generalize hm : lastL y0 = m at c1 c2 hp
        have hlf : label_Last.f y0 = some (m.f0, m.f1) := by unfold label_Last.f; rw [hm]
        have hlf2 : label_Last.f ([] ++ y0.drop n ++ y0.take n) = some (m.f0, m.f1) := by unfold label_Last.f; rw [hp]
        rw [hlf]
        simp only [Option.bind_some, Int.toNat_natCast]
        have l1 : ([] : List (S24)).length + (y0.drop n).length < 17592186044416 := by simp; omega
        have l2 : ([] ++ y0.drop n).length + (y0.take n).length < 17592186044416 := by simp; omega
        rw [if_pos (by omega), if_pos (by omega), if_pos l1, if_pos l2, hlf2]
        simp only [Option.bind_some, beq_self_eq_true, Bool.not_true, Bool.or_self, Bool.false_eq_true, if_false]
        have hlp := fun b hb => loop_tells y0 (by omega) m c1 y0.length 0 b 0 (by omega) (by omega) hb
        by_cases h0 : (y0.length : Int) = 0
        · rw [if_pos h0]
          simp only [understudylaw03_LabelLast.j1]
          have e0 : y0 = [] := List.eq_nil_of_length_eq_zero (by omega)
          refine hlp _ (Or.inl ?_)
          subst e0
          have : m = z24 := hm.symm
          rw [this]; decide
        · rw [if_neg h0]
          simp only [understudylaw03_LabelLast.j1]
          refine hlp _ (Or.inr ?_)
          rcases c2 with c2 | c2
          · subst c2; simp at h0
          · obtain ⟨j, hj⟩ := List.getElem?_of_mem c2
            exact ⟨j, by omega, hj⟩
end Go.Proofs.YthohdcnhnopafaaDoor.PLabelLast
