/- Pages of nodes, plain: there and back. -/
import Derived.Test.YtiokdpnhaemciaaLeaf5
set_option linter.unusedVariables false
set_option linter.unusedSimpArgs false
namespace Go.Proofs.Ytiokdpnhaemciaa
open Go.RowKit Go.Proofs.YtiokdpnhaemciaaW.PrintWords Go.Proofs.YtiokdpnhaemciaaW.PrintLast
open Crc
section
variable {k : Int} {b : List UInt8} {es : List (Int × Int)} {xs : List UInt8}
theorem pd_getD {i : Nat} (h : i < xs.length) : (pdB xs).getD i 0 = xs.getD i 0 := by
  unfold pdB sealB
  rw [List.append_assoc, List.getD_eq_getElem?_getD, List.getD_eq_getElem?_getD, List.getElem?_append_left h]
theorem es_get : ∀ (es : List (Int × Int)) (i : Nat) (x : Int × Int), es[i]? = some x → (esB es)[2 * i]? = some (byt x.1) ∧ (esB es)[2 * i + 1]? = some (byt x.2)
  | [], i, x, h => by simp at h
  | y :: es, 0, x, h => by
    have : y = x := by simpa using h
    subst this
    exact ⟨rfl, rfl⟩
  | y :: es, i + 1, x, h => by
    have ih := es_get es i x (by simpa using h)
    have e : esB (y :: es) = byt y.1 :: byt y.2 :: esB es := rfl
    rw [e, show 2 * (i + 1) = 2 * i + 1 + 1 by omega]
    simpa using ih
theorem en_ok {i : Nat} {x : Int × Int} (h : enB es i = true) (hx : es[i]? = some x) : (0 ≤ x.1 ∧ x.1 < 64) ∧ (0 ≤ x.2 ∧ x.2 < 240) ∧ (i = 0 ∨ (es.getD (i - 1) (0, 0)).1 < x.1) := by
  unfold enB at h
  rw [hx] at h
  simp only [Bool.and_eq_true, Bool.or_eq_true, decide_eq_true_eq, beq_iff_eq] at h
  exact ⟨⟨h.1.1.1.1, h.1.1.1.2⟩, ⟨h.1.1.2, h.1.2⟩, h.2⟩
theorem rise_at (h : riseB es = true) {i : Nat} (hi : i < es.length) : enB es i = true := by
  unfold riseB at h
  simp only [Bool.and_eq_true] at h
  have h1 := h.1
  unfold riseK at h1
  exact List.all_eq_true.1 h1 i (List.mem_range.2 hi)
theorem bv_byt {z : Int} (h0 : 0 ≤ z) (h1 : z < 256) : bv (byt z) = z := by
  unfold byt bv
  rw [UInt8.toNat_ofNat']
  omega
theorem nd_kind (h : ndOk k b es = true) : (k = 1 ∧ es = []) ∨ ((k = 2 ∨ k = 3) ∧ b = zK ∧ es.length ≤ 6 ∧ riseB es = true) := by
  unfold ndOk at h
  split at h
  · rename_i hk
    exact .inl ⟨hk, List.eq_nil_of_length_eq_zero (of_decide_eq_true h)⟩
  · split at h
    · rename_i hk
      simp only [Bool.and_eq_true, decide_eq_true_eq] at h
      exact .inr ⟨hk, h.1.1, h.1.2, h.2⟩
    · cases h
theorem lf_back (hb : b.length = 16) (h : ndOk k b es = true) : kN (pdB (ndB k b es)) = k ∧ bN (pdB (ndB k b es)) = b ∧ eN (pdB (ndB k b es)) = es := by
  rcases nd_kind h with ⟨rfl, rfl⟩ | ⟨hk, rfl, h6, hr⟩
  · have e : ndB 1 b [] = [byt 1] ++ b := by unfold ndB; rw [if_pos rfl]
    rw [e]
    have hk : kN (pdB ([byt 1] ++ b)) = 1 := by
      unfold kN
      rw [pd_getD (by simp)]
      rfl
    refine ⟨hk, ?_, ?_⟩
    · unfold bN
      rw [if_pos hk]
      unfold pdB sealB
      rw [List.append_assoc, List.append_assoc]
      show (([byt 1] ++ (b ++ _)).drop 1).take 16 = b
      rw [List.drop_left' (by rfl)]
      exact List.take_left' hb
    · unfold eN
      rw [if_pos hk]
  · have hk1 : ¬ k = 1 := by omega
    have e : ndB k zK es = byt k :: byt (es.length : Int) :: esB es := by unfold ndB; rw [if_neg hk1]; rfl
    rw [e]
    have hl : (byt k :: byt (es.length : Int) :: esB es).length = 2 * es.length + 2 := by simp [esB_length]
    have hkk : kN (pdB (byt k :: byt (es.length : Int) :: esB es)) = k := by
      unfold kN
      rw [pd_getD (by simp)]
      exact bv_byt (by omega) (by omega)
    have hk1' : ¬ kN (pdB (byt k :: byt (es.length : Int) :: esB es)) = 1 := by rw [hkk]; exact hk1
    have hm : mN (pdB (byt k :: byt (es.length : Int) :: esB es)) = es.length := by
      unfold mN
      rw [pd_getD (by simp)]
      have : bv (byt (es.length : Int)) = (es.length : Int) := bv_byt (by omega) (by omega)
      unfold bv at this
      show min (byt (es.length : Int)).toNat 6 = es.length
      omega
    refine ⟨hkk, ?_, ?_⟩
    · unfold bN
      rw [if_neg hk1']
    · unfold eN
      rw [if_neg hk1', hm]
      apply List.ext_getElem?
      intro i
      unfold eL
      rw [List.getElem?_map]
      by_cases hi : i < es.length
      · rw [List.getElem?_range hi]
        obtain ⟨x, hx⟩ : ∃ x, es[i]? = some x := ⟨_, List.getElem?_eq_getElem hi⟩
        obtain ⟨h1, h2⟩ := es_get es i x hx
        obtain ⟨b1, b2, _⟩ := en_ok (rise_at hr hi) hx
        rw [hx]
        show some (bv (List.getD _ (2 + 2 * i) 0), bv (List.getD _ (2 + 2 * i + 1) 0)) = some x
        rw [pd_getD (by rw [hl]; omega), pd_getD (by rw [hl]; omega)]
        have g1 : (byt k :: byt (es.length : Int) :: esB es).getD (2 + 2 * i) 0 = byt x.1 := by
          rw [List.getD_eq_getElem?_getD, show 2 + 2 * i = 2 * i + 1 + 1 by omega, List.getElem?_cons_succ, List.getElem?_cons_succ, h1]
          rfl
        have g2 : (byt k :: byt (es.length : Int) :: esB es).getD (2 + 2 * i + 1) 0 = byt x.2 := by
          rw [List.getD_eq_getElem?_getD, show 2 + 2 * i + 1 = 2 * i + 1 + 1 + 1 by omega, List.getElem?_cons_succ, List.getElem?_cons_succ, h2]
          rfl
        rw [g1, g2, bv_byt (by omega) (by omega), bv_byt (by omega) (by omega)]
      · have h1 : es[i]? = none := List.getElem?_eq_none (by omega)
        have h2 : (List.range es.length)[i]? = none := List.getElem?_eq_none (by rw [List.length_range]; omega)
        rw [h1, h2]
        rfl
theorem ok_back (hb : b.length = 16) (h : ndOk k b es = true) : okN (pdB (ndB k b es)) = true := by
  obtain ⟨e1, e2, e3⟩ := lf_back hb h
  unfold okN
  rw [e1, e2, e3, h, decide_eq_true rfl]
  rfl
/-- Entries that rise are sorted. -/
theorem rise_sorted (h : riseB es = true) : ∀ (a b : Nat) (x y : Int × Int), a ≤ b → es[a]? = some x → es[b]? = some y → x.1 ≤ y.1 ∧ (a < b → x.1 < y.1) := by
  intro a b x y hab hx hy
  obtain ⟨d, rfl⟩ := Nat.exists_eq_add_of_le hab
  induction d generalizing y with
  | zero =>
    rw [Nat.add_zero, hx] at hy
    injection hy with hy
    subst hy
    exact ⟨Int.le_refl _, fun h => by omega⟩
  | succ d ih =>
    have hl := (List.getElem?_eq_some_iff.1 hy).1
    obtain ⟨z, hz⟩ : ∃ z, es[a + d]? = some z := ⟨_, List.getElem?_eq_getElem (by omega)⟩
    have h1 := ih z (by omega) hz
    have h2 := (en_ok (rise_at h hl) hy).2.2
    rw [show a + (d + 1) - 1 = a + d by omega, List.getD_eq_getElem?_getD, hz] at h2
    have h3 : z.1 < y.1 := by
      rcases h2 with h2 | h2
      · omega
      · exact h2
    exact ⟨by omega, fun _ => by omega⟩
end
end Go.Proofs.Ytiokdpnhaemciaa
