/- Frames, plain: there and back; what is turned is found. -/
import Derived.Test.YtmachdikonelbaaZFrameFindsFr8
import Derived.Test.YtmachdikonelbaaZFrameFindsFr7
set_option linter.unusedVariables false
set_option linter.unusedSimpArgs false
namespace Go.Proofs.Ytmachdikonelbaa
open Go.RowKit Go.Proofs.YtmachdikonelbaaW.PrintWords Go.Proofs.YtmachdikonelbaaW.PrintLast Crc
theorem seal_sum (l : List UInt8) : sumB init (sealB l) = 0#32 := by
  unfold sealB
  rw [sumB_append, sumB_eq _ (tailB _), tailB_eq]
  exact (tail_iff _ _ _ _ _).2 rfl
theorem okS_seal (l : List UInt8) : okS (sealB l) = true := by
  unfold okS
  rw [seal_sum, decide_eq_true (show 4 ≤ (sealB l).length by rw [sealB_length]; omega)]
  rfl
theorem bdyS_seal (l : List UInt8) : bdyS (sealB l) = l := by
  unfold bdyS
  rw [if_pos (okS_seal l), sealB_length, Nat.add_sub_cancel]
  unfold sealB
  exact List.take_left' rfl
theorem fr_back {m : Mg} (hw : m.wf) (h : mgOk m = true) : fOk (fbB m) = true ∧ frM (fbB m) = m ∧ frE (fbB m) = 0 := by
  have e0 : fbB m = sealB (mgB m) := (fb_yes h).1
  have e1 : inM (fbB m) = m := by unfold inM; rw [e0, bdyS_seal, rd_mg hw h]
  have e2 : fOk (fbB m) = true := by
    unfold fOk
    rw [e1, e0, okS_seal, h]
    simp
  obtain ⟨e3, e4⟩ := fr_yes e2
  exact ⟨e2, by rw [e3, e1], e4⟩
theorem frM_its (b : List UInt8) : (frM b).its.length ≤ 4 := by
  unfold frM
  split
  · exact rdM_its _
  · exact Nat.zero_le _
theorem frM_hvs (b : List UInt8) : (frM b).hvs.length ≤ 8 := by
  unfold frM
  split
  · exact rdM_hvs _
  · exact Nat.zero_le _
theorem fb_len {m : Mg} (hw : m.wf) (h : mgOk m = true) : (fbB m).length = 41 + 18 * m.its.length + 12 * m.hvs.length := by
  rw [(fb_yes h).1, sealB_length, mgB_len hw]; omega
theorem mg_le {m : Mg} (h : mgOk m = true) : m.its.length ≤ 4 ∧ m.hvs.length ≤ 8 := by
  unfold mgOk at h
  simp only [Bool.and_eq_true, decide_eq_true_eq] at h
  exact ⟨h.1.1.1.1.1.2, h.1.1.1.1.2⟩
theorem fb_le {m : Mg} (hw : m.wf) : (fbB m).length ≤ 1000 := by
  rcases h : mgOk m with _ | _
  · rw [(fb_no h).1]; exact Nat.zero_le _
  · obtain ⟨h1, h2⟩ := mg_le h
    rw [fb_len hw h]; omega
def aMg : Mg := ⟨4, 1, 0, 0, 0, 0, 0, 0, 0, 0, [], []⟩
theorem aMg_ok : mgOk aMg = true := by decide
theorem aMg_wf : aMg.wf := ⟨⟨by decide, by decide⟩, ⟨by decide, by decide⟩, ⟨by decide, by decide⟩, ⟨by decide, by decide⟩, ⟨by decide, by decide⟩, ⟨by decide, by decide⟩, ⟨by decide, by decide⟩, ⟨by decide, by decide⟩, ⟨by decide, by decide⟩, ⟨by decide, by decide⟩, fun x hx => (by cases hx), fun x hx => (by cases hx)⟩
theorem it_nil (w : World) : kIt.C w none ([] : List It).length [] := (Kd.C_nil kIt w)
theorem hv_nil (w : World) : kHv.C w none ([] : List Hv).length [] := (Kd.C_nil kHv w)
theorem rowsl {w : World} {n c : Nat} {A : Option Addr} {xs : List UInt8} (h : (row kByte rfl 5 (.slice A n c) xs).holds w) : Sl w A c xs := by
  obtain ⟨A', c', hv, hs⟩ := Own.sl (row_own h)
  injection hv with h1 h2 h3
  subst h1 h3
  exact hs
def grB (m : Mg) : Bool := decide (40 < m.its.length) || decide (40 < m.hvs.length)
def trnB (l : List UInt8) (q : Nat) (m n : UInt8) : List UInt8 := (l.modify q (· ^^^ m)).modify (q + 1) (· ^^^ n)
theorem two_zero (a b : UInt8) : sumB 0#32 [a, b] = 0#32 ↔ (a = 0 ∧ b = 0) := by
  constructor
  · intro h
    rw [sumB_eq] at h
    obtain ⟨h1, h2⟩ := sum2_zero _ _ h
    exact ⟨UInt8.toBitVec_inj.1 h1, UInt8.toBitVec_inj.1 h2⟩
  · rintro ⟨rfl, rfl⟩; decide
theorem two_xor (S : W) (a b m n : UInt8) : sumB S [a ^^^ m, b ^^^ n] = sumB S [a, b] ^^^ sumB 0#32 [m, n] := by
  have e : sumB S [a ^^^ m, b ^^^ n] = sumB (S ^^^ 0#32) [a ^^^ m, b ^^^ n] := by rw [BitVec.xor_zero]
  rw [e, sumB_eq, sumB_eq, sumB_eq]
  exact sum_xor [a.toBitVec, b.toBitVec] [m.toBitVec, n.toBitVec] S 0#32 rfl
theorem mod_app {α : Type} (x : α) (s : List α) (f : α → α) : ∀ p : List α, (p ++ x :: s).modify p.length f = p ++ f x :: s
  | [] => rfl
  | c :: p => by
    show (c :: (p ++ x :: s)).modify (p.length + 1) f = c :: (p ++ f x :: s)
    rw [List.modify_succ_cons, mod_app x s f p]
theorem turn_two (p s : List UInt8) (a b m n : UInt8) : trnB (p ++ a :: b :: s) p.length m n = p ++ (a ^^^ m) :: (b ^^^ n) :: s := by
  unfold trnB
  rw [mod_app]
  have := mod_app b s (fun x => x ^^^ n) (p ++ [a ^^^ m])
  simpa using this
theorem trnB_length (l : List UInt8) (q : Nat) (m n : UInt8) : (trnB l q m n).length = l.length := by unfold trnB; rw [List.length_modify, List.length_modify]
theorem finds (l : List UInt8) (q : Nat) (m n : UInt8) (hq : q + 1 < l.length) (hl : 4 ≤ l.length) (h0 : sumB init l = 0#32) : okS (trnB l q m n) = decide (m = 0 ∧ n = 0) := by
  have hp : l = l.take q ++ l[q] :: l[q + 1] :: l.drop (q + 2) := by
    conv => lhs; rw [← List.take_append_drop q l]
    congr 1
    rw [List.drop_eq_getElem_cons (by omega), List.drop_eq_getElem_cons (by omega)]
  generalize l[q] = a at hp
  generalize l[q + 1] = b at hp
  have hpl : (l.take q).length = q := by rw [List.length_take]; omega
  generalize l.take q = p at hp hpl
  generalize l.drop (q + 2) = s at hp
  subst hpl
  subst hp
  rw [turn_two]
  unfold okS
  have hl2 : 4 ≤ (p ++ (a ^^^ m) :: (b ^^^ n) :: s).length := by simpa using hl
  rw [decide_eq_true hl2, Bool.true_and]
  have e : ∀ x y : UInt8, sumB init (p ++ x :: y :: s) = sumB (sumB (sumB init p) [x, y]) s := by
    intro x y
    rw [sumB_append, show x :: y :: s = [x, y] ++ s from rfl, sumB_append]
  rw [e] at h0 ⊢
  rw [two_xor]
  rw [decide_eq_decide]
  rw [← two_zero m n]
  constructor
  · intro h
    have hi : ∀ (l : List UInt8) {a b : W}, sumB a l = sumB b l → a = b := fun l {a b} h => by
      rw [sumB_eq, sumB_eq] at h; exact Crc.sum_inj _ h
    have := hi s (h.trans h0.symm)
    generalize sumB (sumB init p) [a, b] = T at this
    have k := congrArg (T ^^^ ·) this
    simpa [← BitVec.xor_assoc] using k
  · intro h
    rw [h, BitVec.xor_zero]; exact h0
theorem fr_turn {m : Mg} (hw : m.wf) (h : mgOk m = true) (q : Nat) (a b : UInt8) (hq : q + 1 < (fbB m).length) : frE (trnB (fbB m) q a b) = if a = 0 ∧ b = 0 then 0 else 181 := by
  have e0 : fbB m = sealB (mgB m) := (fb_yes h).1
  have hf := finds (fbB m) q a b hq (by rw [e0, sealB_length]; omega) (by rw [e0]; exact seal_sum _)
  by_cases hab : a = 0 ∧ b = 0
  · rw [if_pos hab]
    obtain ⟨rfl, rfl⟩ := hab
    have e : trnB (fbB m) q 0 0 = fbB m := by
      unfold trnB
      have z : ∀ (l : List UInt8) (i : Nat), l.modify i (· ^^^ 0) = l := fun l i => by
        apply List.ext_getElem?
        intro j
        rw [List.getElem?_modify]
        cases l[j]? <;> simp
      rw [z, z]
    rw [e]; exact (fr_back hw h).2.2
  · rw [if_neg hab]
    refine (fr_no ?_).2
    unfold fOk
    rw [hf, decide_eq_false hab]
    simp
end Go.Proofs.Ytmachdikonelbaa
