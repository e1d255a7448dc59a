/- Pages of counts, plain: there and back, one byte turned, unlike ones. -/
import Derived.Test.YtiokdpnhaemciaaTal2
set_option linter.unusedVariables false
set_option linter.unusedSimpArgs false
namespace Go.Proofs.Ytiokdpnhaemciaa
open Go.RowKit Go.Proofs.YtiokdpnhaemciaaW.PrintWords Go.Proofs.YtiokdpnhaemciaaW.PrintLast
open Crc
namespace Crc
theorem sumB_inj (l : List UInt8) {a b : W} (h : sumB a l = sumB b l) : a = b := by
  rw [sumB_eq, sumB_eq] at h; exact Crc.sum_inj _ h
theorem up_inj {a b : BitVec 8} (h : up a = up b) : a = b := by
  unfold up at h
  have h := congrArg BitVec.toNat h
  rw [BitVec.toNat_shiftLeft, BitVec.toNat_shiftLeft, Nat.shiftLeft_eq, Nat.shiftLeft_eq, BitVec.toNat_setWidth, BitVec.toNat_setWidth] at h
  apply BitVec.eq_of_toNat_eq
  have h1 := a.isLt
  have h2 := b.isLt
  omega
theorem step_byte {s : W} {a b : BitVec 8} (h : step s a = step s b) : a = b := by
  have h2 : s ^^^ up a = s ^^^ up b := bits8_inj h
  rw [BitVec.xor_comm, BitVec.xor_comm s] at h2
  exact up_inj (xor_right_inj h2)
theorem tailB_inj {s t : W} (h : tailB s = tailB t) : s = t := by
  have h1 : Crc.tail s = Crc.tail t := by rw [← tailB_eq, ← tailB_eq, h]
  have e1 := (tail_iff s _ _ _ _).2 (rfl : _ = Crc.tail s)
  have e2 := (tail_iff t _ _ _ _).2 (h1 : _ = Crc.tail t)
  exact sum_inj _ (e1.trans e2.symm)
/-- One byte is another one. -/
theorem sum_set (S : W) (l : List UInt8) (j : Nat) (hj : j < l.length) (y : UInt8) (h : sumB S (l.set j y) = sumB S l) : y = l[j] := by
  have e1 : l = l.take j ++ l[j] :: l.drop (j + 1) := by
    conv => lhs; rw [← List.take_append_drop j l]
    congr 1
    exact List.drop_eq_getElem_cons hj
  have e2 : l.set j y = l.take j ++ y :: l.drop (j + 1) := by rw [List.set_eq_take_append_cons_drop, if_pos hj]
  have ex : ∀ x : UInt8, sumB S (l.take j ++ x :: l.drop (j + 1)) = sumB (Crc.step (sumB S (l.take j)) x.toBitVec) (l.drop (j + 1)) := by
    intro x
    rw [sumB_append]
    rfl
  have h' : sumB S (l.take j ++ y :: l.drop (j + 1)) = sumB S (l.take j ++ l[j] :: l.drop (j + 1)) := by rw [← e2, ← e1]; exact h
  rw [ex, ex] at h'
  exact UInt8.toBitVec_inj.1 (step_byte (sumB_inj _ h'))
end Crc
section
variable {g g' : UInt64} {c d q : List UInt8}
theorem leB_inj : ∀ (k a b : Nat), a < 256 ^ k → b < 256 ^ k → leB k a = leB k b → a = b
  | 0, a, b, ha, hb, _ => by simp at ha hb; omega
  | k + 1, a, b, ha, hb, h => by
    unfold leB at h
    obtain ⟨h1, h2⟩ := List.cons.inj h
    have h1 := congrArg UInt8.toNat h1
    rw [UInt8.toNat_ofNat', UInt8.toNat_ofNat'] at h1
    rw [Nat.pow_succ] at ha hb
    have := leB_inj k (a / 256) (b / 256) (by omega) (by omega) h2
    omega
theorem gnB_inj (h : gnB g = gnB g') : g = g' := by
  apply UInt64.toNat_inj.1
  have h1 := g.toNat_lt
  have h2 := g'.toNat_lt
  exact leB_inj 8 _ _ (by omega) (by omega) h
/-- A page of counts in its four parts. -/
theorem tlB_form (g : UInt64) (c : List UInt8) : tlB g c = gnB g ++ (c ++ (tailB (sumB init (gnB g ++ c)) ++ [0, 0, 0, 0])) := by
  unfold tlB sealB
  simp only [List.append_assoc]
theorem tlB_gen (g : UInt64) (c : List UInt8) : (tlB g c).take 8 = gnB g := by
  rw [tlB_form]
  exact List.take_left' (gnB_length g)
theorem bd_page (hc : c.length = 240) : bdB (tlB g c) = c := by
  unfold bdB
  rw [tlB_form, List.drop_left' (gnB_length g)]
  exact List.take_left' hc
theorem tl_tail (hc : c.length = 240) : (tlB g c).drop 248 = tailB (sumB init (gnB g ++ c)) ++ [0, 0, 0, 0] := by
  rw [tlB_form, ← List.append_assoc]
  exact List.drop_left' (by rw [List.length_append, gnB_length, hc])
theorem ok_page (hc : c.length = 240) : tlOk g (tlB g c) = true := by
  unfold tlOk
  rw [bd_page hc]
  exact decide_eq_true rfl
theorem ok_gen (h : tlOk g q = true) : q.take 8 = gnB g := by
  have := of_decide_eq_true h
  rw [← this]
  exact tlB_gen g _
theorem ok_other (hn : g ≠ g') (c : List UInt8) : tlOk g' (tlB g c) = false := by
  rcases h : tlOk g' (tlB g c) with _ | _
  · rfl
  · have := ok_gen h
    rw [tlB_gen] at this
    exact absurd (gnB_inj this) hn
theorem ok_torn (hc : c.length = 240) {i : Nat} {y : UInt8} (hi : i < 256) (hy : y ≠ (tlB g c).getD i 0) : tlOk g ((tlB g c).set i y) = false := by
  have hl := tlB_length g hc
  have hg : (tlB g c).getD i 0 = (tlB g c)[i]'(by omega) := by simp [List.getD_eq_getElem?_getD, hl, hi]
  rw [hg] at hy
  rcases h : tlOk g ((tlB g c).set i y) with _ | _
  · rfl
  · exfalso
    have h := of_decide_eq_true h
    by_cases hm : 8 ≤ i ∧ i < 248
    · have hb : bdB ((tlB g c).set i y) = c.set (i - 8) y := by
        unfold bdB
        rw [tlB_form]
        rw [List.set_append_right _ _ (by rw [gnB_length]; exact hm.1), gnB_length, List.drop_left' (gnB_length g), List.set_append_left _ _ (by omega)]
        exact List.take_left' (by rw [List.length_set, hc])
      rw [hb] at h
      have ht := congrArg (List.drop 248) h
      rw [tl_tail (by rw [List.length_set, hc]), List.drop_set, if_pos hm.2, tl_tail hc] at ht
      have ht2 := tailB_inj (List.append_cancel_right ht)
      have e : gnB g ++ c.set (i - 8) y = (gnB g ++ c).set i y := by rw [List.set_append_right _ _ (by rw [gnB_length]; exact hm.1), gnB_length]
      rw [e] at ht2
      have h3 := sum_set init (gnB g ++ c) i (by rw [List.length_append, gnB_length]; omega) y ht2
      apply hy
      rw [h3]
      have e2 : (tlB g c)[i]? = (gnB g ++ c)[i]? := by
        rw [tlB_form, ← List.append_assoc, List.getElem?_append_left (by rw [List.length_append, gnB_length]; omega)]
      rw [List.getElem?_eq_getElem (by omega), List.getElem?_eq_getElem (by rw [List.length_append, gnB_length]; omega)] at e2
      exact (Option.some.inj e2).symm
    · have hb : bdB ((tlB g c).set i y) = c := by
        have hk : ∀ (l : List UInt8), bdB (l.set i y) = bdB l := by
          intro l
          unfold bdB
          apply List.ext_getElem?
          intro j
          rw [List.getElem?_take, List.getElem?_take]
          split
          · rw [List.getElem?_drop, List.getElem?_drop, List.getElem?_set_ne (by omega)]
          · rfl
        rw [hk, bd_page hc]
      rw [hb] at h
      have := congrArg (fun l => l[i]?) h
      simp only [List.getElem?_set_self (show i < (tlB g c).length by omega)] at this
      rw [List.getElem?_eq_getElem (by omega)] at this
      exact hy (Option.some.inj this).symm
theorem tlB_inj (hc : c.length = 240) (hd : d.length = 240) : tlB g c = tlB g' d ↔ g = g' ∧ c = d := by
  constructor
  · intro h
    have h1 := congrArg (List.take 8) h
    rw [tlB_gen, tlB_gen] at h1
    have h2 := congrArg bdB h
    rw [bd_page hc, bd_page hd] at h2
    exact ⟨gnB_inj h1, h2⟩
  · rintro ⟨rfl, rfl⟩
    rfl
theorem us_zero (hc : c.length = 240) : usN c = 0 ↔ c = zB := by
  unfold usN zB
  rw [List.length_eq_zero_iff, List.filter_eq_nil_iff, List.eq_replicate_iff]
  simp [hc]
theorem xor8 (a b : UInt8) : IntKind.wrap .u8 ((((bv a % 2 ^ IntKind.u8.bits).toNat ^^^ (bv b % 2 ^ IntKind.u8.bits).toNat : Nat)) : Int) = bv (a ^^^ b) := by
  have h1 := a.toNat_lt
  have h2 := b.toNat_lt
  have e : ∀ x : UInt8, (bv x % 2 ^ IntKind.u8.bits).toNat = x.toNat := by
    intro x
    have := x.toNat_lt
    show (bv x % 2 ^ 8).toNat = _
    unfold bv
    omega
  rw [e, e, ← UInt8.toNat_xor, IntKind.wrap_u8]
  have := (a ^^^ b).toNat_lt
  unfold bv
  omega
theorem bv_getD (l : List UInt8) (i : Nat) : (l.map bv).getD i 0 = bv (l.getD i 0) := by
  rw [List.getD_eq_getElem?_getD, List.getD_eq_getElem?_getD, List.getElem?_map]
  cases l[i]? <;> rfl
theorem bv_nat (i : UInt8) : (bv i).toNat = i.toNat := by unfold bv; omega
theorem xor_ne {x m : UInt8} (h : m ≠ 0) : x ^^^ m ≠ x := by
  intro e
  apply h
  have e2 : x ^^^ m = x ^^^ 0 := by rw [e, UInt8.xor_zero]
  exact (UInt8.xor_right_inj x).1 e2
end
end Go.Proofs.Ytiokdpnhaemciaa
