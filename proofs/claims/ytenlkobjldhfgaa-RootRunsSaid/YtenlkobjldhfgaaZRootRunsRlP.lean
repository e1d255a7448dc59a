/- The disk and the document's disk: what holds of both, whatever is done. -/
import Derived.Test.YtenlkobjldhfgaaZRootRunsRdC
import Derived.Test.YtenlkobjldhfgaaZRootRunsRdA
import Derived.Test.YtenlkobjldhfgaaZRootRunsL4b
set_option linter.unusedVariables false
set_option linter.unusedSimpArgs false
namespace Go.Proofs.Ytenlkobjldhfgaa
open Go.RowKit Go.Proofs.YtenlkobjldhfgaaW.PrintWords Go.Proofs.YtenlkobjldhfgaaW.PrintLast
theorem settleL_cong {m1 m2 : Nat → Int} : ∀ (l : List (Int × List Int)) (k : Nat) (T : List (List Int)), (∀ j, j < l.length → m1 (k + j) = m2 (k + j)) → settleL m1 k l T = settleL m2 k l T
 | [], _, _, _ => rfl
 | x :: l, k, T, h => by
  unfold settleL
  have h0 := h 0 (by simp)
  rw [Nat.add_zero] at h0
  rw [h0]
  exact settleL_cong l (k + 1) _ (fun j hj => by have := h (j + 1) (by simp; omega); rw [show k + (j + 1) = k + 1 + j by omega] at this; exact this)
structure RD (S : Dk) (R : Rk) : Prop where
 st : R.stable = S.stable
 pd : R.pending = S.pending
 dn : R.down = S.down
 bl : R.bad.length = S.stable.length
 nn : ∀ i, 0 ≤ S.bad i
 ba : ∀ i, S.there i = true → R.bad.getD i.toNat false = decide (0 < S.bad i)
 lo : -1 ≤ S.left
 ct : R.counted = decide (0 ≤ S.left)
 lf : R.counted = true → R.left = S.left
section
variable {S : Dk} {R : Rk}
theorem rd_there (h : RD S R) (i : Int) : R.there i = S.there i := by unfold Rk.there Dk.there; rw [h.st]
theorem rd_acts (h : RD S R) : R.acts = S.acts := by
 unfold Rk.acts Dk.acts
 rw [h.dn]
 congr 1
 by_cases c : 0 ≤ S.left
 ·have hc : R.counted = true := by rw [h.ct]; exact decide_eq_true c
  rw [hc, h.lf hc]
  rfl
 ·have hc : R.counted = false := by rw [h.ct]; exact decide_eq_false c
  rw [hc, decide_eq_false (show ¬ S.left = 0 by omega)]
  rfl
theorem rd_actE (h : RD S R) : R.actE = S.actE := by unfold Rk.actE; rw [actE_eq, rd_acts h]
theorem rd_act (h : RD S R) : RD S.act R.act := by
 have ha := rd_acts h
 unfold Rk.act Dk.act
 rw [ha]
 by_cases c : S.acts = true
 ·rw [if_pos c, if_pos c]
  have hz : S.left ≠ 0 := fun e => by
   unfold Dk.acts at c
   rw [e] at c
   simp at c
  by_cases c2 : 0 ≤ S.left
  ·have hc : R.counted = true := by rw [h.ct]; exact decide_eq_true c2
   rw [if_pos hc, if_pos (show 0 < S.left by omega)]
   exact ⟨h.st, h.pd, h.dn, h.bl, h.nn, h.ba, by show -1 ≤ S.left - 1; omega, by show R.counted = decide (0 ≤ S.left - 1); rw [hc, decide_eq_true (by omega)], fun _ => by show R.left - 1 = S.left - 1; rw [h.lf hc]⟩
  ·have hc : ¬ R.counted = true := by rw [h.ct, decide_eq_false c2]; decide
   rw [if_neg hc, if_neg (show ¬ 0 < S.left by omega)]
   exact ⟨h.st, h.pd, h.dn, h.bl, h.nn, h.ba, h.lo, h.ct, h.lf⟩
 ·rw [if_neg c, if_neg c]
  exact ⟨h.st, h.pd, rfl, h.bl, h.nn, h.ba, h.lo, h.ct, h.lf⟩
theorem rd_new (pages : Int) : RD (Dk.new pages) (Rk.new pages) := by
 refine ⟨rfl, rfl, rfl, ?_, fun _ => Int.le_refl 0, fun i _ => ?_, by show (-1 : Int) ≤ -1; omega, rfl, fun h => by cases h⟩
 ·show (List.replicate (nOf pages) false).length = (List.replicate (nOf pages) zpg).length
  rw [List.length_replicate, List.length_replicate]
 ·show (List.replicate (nOf pages) false).getD i.toNat false = decide ((0 : Int) < 0)
  rw [List.getD_eq_getElem?_getD, List.getElem?_replicate]
  split <;> rfl
theorem rd_write (h : RD S R) (i : Int) (p : List Int) : RD (S.write i p) (R.put i p) ∧ R.putE i = S.writeE i := by
 have ht := rd_there h i
 have ha := rd_acts h
 have h2 := rd_act h
 unfold Rk.put Dk.write Rk.putE Dk.writeE
 rw [ht, ha, rd_actE h]
 by_cases c : S.there i = true
 ·rw [if_pos c, if_pos c, if_pos c]
  refine ⟨?_, rfl⟩
  by_cases c2 : S.acts = true
  ·rw [if_pos c2, if_pos c2]
   exact ⟨h2.st, by show R.act.pending ++ _ = S.act.pending ++ _; rw [h2.pd], h2.dn, h2.bl, h2.nn, h2.ba, h2.lo, h2.ct, h2.lf⟩
  ·rw [if_neg c2, if_neg c2]
   exact h2
 ·rw [if_neg c, if_neg c, if_neg c]
  exact ⟨h, rfl⟩
theorem rd_cut (h : RD S R) (n : Int) : RD (S.cut n) (R.cut n) := by
 refine ⟨h.st, h.pd, h.dn, h.bl, h.nn, h.ba, ?_, ?_, fun hc => ?_⟩
 ·show -1 ≤ (if (-1 : Int) > n then -1 else n)
  split <;> omega
 ·show decide (n ≥ 0) = decide (0 ≤ (if (-1 : Int) > n then -1 else n))
  split
  ·rw [decide_eq_false (by omega)]; rfl
  ·rfl
 ·show n = (if (-1 : Int) > n then -1 else n)
  have : n ≥ 0 := of_decide_eq_true hc
  rw [if_neg (by omega)]
theorem rd_settle {n : Nat} (h : RD S R) (hg : S.good n) (m : Nat → Int) (keep : List Int) (hm : ∀ j, j < S.pending.length → maskOf keep j = m j) : (R.settle keep).stable = (S.settle m).stable ∧ (S.settle m).stable.length = S.stable.length := by
 refine ⟨?_, (settleL_ok m S.pending 0 S.stable hg.ok.1 hg.ok.2.2.2.2).2⟩
 show settleL (maskOf keep) 0 R.pending R.stable = settleL m 0 S.pending S.stable
 rw [h.pd, h.st]
 exact settleL_cong _ _ _ (fun j hj => by rw [Nat.zero_add]; exact hm j hj)
theorem rd_crash {n : Nat} (h : RD S R) (hg : S.good n) (keep : List Int) : RD (S.crash keep) (R.crash keep) := by
 obtain ⟨e1, e2⟩ := rd_settle h hg (maskOf keep) keep (fun _ _ => rfl)
 refine ⟨e1, rfl, rfl, h.bl.trans e2.symm, h.nn, fun i hi => h.ba i ?_, by show (-1 : Int) ≤ -1; omega, rfl, fun hc => by cases hc⟩
 rw [← hi]
 exact (there_len e2).symm
theorem rd_sync {n : Nat} (h : RD S R) (hg : S.good n) : RD S.sync R.sync := by
 have ha := rd_acts h
 have h2 := rd_act h
 unfold Rk.sync Dk.sync
 rw [ha]
 by_cases c : S.acts = true
 ·rw [if_pos c, if_pos c]
  obtain ⟨e1, e2⟩ := rd_settle h2 (good_act hg) (fun _ => 255) (List.replicate R.act.pending.length 255) (fun j hj => by
   unfold maskOf
   rw [List.getD_eq_getElem?_getD, List.getElem?_replicate, if_pos (by rw [h2.pd]; exact hj)]
   rfl)
  refine ⟨e1, rfl, h2.dn, h2.bl.trans e2.symm, h2.nn, fun i hi => h2.ba i ?_, h2.lo, h2.ct, h2.lf⟩
  rw [← hi]
  exact (there_len e2).symm
 ·rw [if_neg c, if_neg c]
  exact h2
theorem rd_spoil (h : RD S R) (i : Int) (b : Bool) : RD (S.spoil i b) (R.spoil i b) ∧ R.pageE i = S.pageE i := by
 have ht := rd_there h i
 refine ⟨?_, by unfold Rk.pageE Dk.pageE; rw [ht]⟩
 unfold Rk.spoil Dk.spoil
 rw [ht]
 by_cases c : S.there i = true
 ·rw [if_pos c, if_pos c]
  have hi := there_in c
  have hset : ∀ j, S.there j = true → (R.bad.set i.toNat b).getD j.toNat false = if j = i then b else R.bad.getD j.toNat false := fun j hj => by
   have hj2 := there_in hj
   rw [List.getD_eq_getElem?_getD, List.getElem?_set]
   by_cases e : j = i
   ·subst e
    rw [if_pos rfl, if_pos rfl, if_pos (by rw [h.bl]; omega)]
    rfl
   ·rw [if_neg (by omega), if_neg e, List.getD_eq_getElem?_getD]
  cases b with
  | true =>
   rw [if_pos rfl]
   refine ⟨h.st, h.pd, h.dn, (List.length_set).trans h.bl, fun j => ?_, fun j hj => ?_, h.lo, h.ct, h.lf⟩
   ·show 0 ≤ putF S.bad i (S.bad i + 1) j
    unfold putF
    have := h.nn i
    split
    ·omega
    ·exact h.nn j
   ·show (R.bad.set i.toNat true).getD j.toNat false = decide (0 < putF S.bad i (S.bad i + 1) j)
    rw [hset j hj]
    unfold putF
    have := h.nn i
    split
    ·rw [decide_eq_true (by omega)]
    ·exact h.ba j hj
  | false =>
   rw [if_neg (by decide)]
   refine ⟨h.st, h.pd, h.dn, (List.length_set).trans h.bl, fun j => ?_, fun j hj => ?_, h.lo, h.ct, h.lf⟩
   ·show 0 ≤ putF S.bad i 0 j
    unfold putF
    split
    ·omega
    ·exact h.nn j
   ·show (R.bad.set i.toNat false).getD j.toNat false = decide (0 < putF S.bad i 0 j)
    rw [hset j hj]
    unfold putF
    split
    ·rfl
    ·exact h.ba j hj
 ·rw [if_neg c, if_neg c]
  exact h
theorem rd_read (h : RD S R) (i : Int) : R.readE i = S.readE i ∧ R.readP i = S.readP i := by
 have ht := rd_there h i
 unfold Rk.readE Rk.readP Dk.readE Dk.readP
 rw [ht]
 by_cases c : S.there i = true
 ·rw [if_pos c, if_pos c, if_pos c, if_pos c, h.ba i c, h.pd, h.st]
  by_cases c2 : 0 < S.bad i
  ·rw [decide_eq_true c2, if_pos rfl, if_pos c2, if_pos rfl, if_pos c2]
   exact ⟨rfl, rfl⟩
  ·rw [decide_eq_false c2, if_neg (by decide), if_neg c2, if_neg (by decide), if_neg c2]
   exact ⟨rfl, rfl⟩
 ·rw [if_neg c, if_neg c, if_neg c, if_neg c]
  exact ⟨rfl, rfl⟩
end
end Go.Proofs.Ytenlkobjldhfgaa
