/- Frames, plain: there and back; what is turned is found. -/
import Derived.Test.YtmachdikonelbaaZFrameBackFr8
import Derived.Test.YtmachdikonelbaaZFrameBackFr7
set_option linter.unusedVariables false
set_option linter.unusedSimpArgs false
namespace Go.Proofs.Ytmachdikonelbaa
open Go.RowKit Go.Proofs.YtmachdikonelbaaW.PrintWords Go.Proofs.YtmachdikonelbaaW.PrintLast Crc
theorem seal_sum (l : List UInt8) : sumB init (sealB l) = 0#32 := by
  unfold sealB
  rw [sumB_append, sumB_eq _ (tailB _), tailB_eq]
  exact (tail_iff _ _ _ _ _).2 rfl
theorem okS_seal (l : List UInt8) : okS (sealB l) = true := by
  unfold okS
  rw [seal_sum, decide_eq_true (show 4 ≤ (sealB l).length by rw [sealB_length]; omega)]
  rfl
theorem bdyS_seal (l : List UInt8) : bdyS (sealB l) = l := by
  unfold bdyS
  rw [if_pos (okS_seal l), sealB_length, Nat.add_sub_cancel]
  unfold sealB
  exact List.take_left' rfl
theorem sealB_inj {a b : List UInt8} (h : sealB a = sealB b) : a = b := by rw [← bdyS_seal a, h, bdyS_seal]
theorem fr_back {m : Mg} (hw : m.wf) (h : mgOk m = true) : fOk (fbB m) = true ∧ frM (fbB m) = m ∧ frE (fbB m) = 0 := by
  have e0 : fbB m = sealB (mgB m) := (fb_yes h).1
  have e1 : inM (fbB m) = m := by unfold inM; rw [e0, bdyS_seal, rd_mg hw h]
  have e2 : fOk (fbB m) = true := by
    unfold fOk
    rw [e1, e0, okS_seal, h]
    simp
  obtain ⟨e3, e4⟩ := fr_yes e2
  exact ⟨e2, by rw [e3, e1], e4⟩
theorem fr_ok {b : List UInt8} (h : fOk b = true) : mgOk (frM b) = true ∧ fbB (frM b) = b ∧ fbE (frM b) = 0 := by
  obtain ⟨e3, -⟩ := fr_yes h
  unfold fOk at h
  simp only [Bool.and_eq_true, decide_eq_true_eq] at h
  rw [e3]
  exact ⟨h.1.2, by rw [(fb_yes h.1.2).1]; exact h.2, (fb_yes h.1.2).2⟩
theorem fb_same {m n : Mg} (hm : m.wf) (hn : n.wf) (h1 : mgOk m = true) (h2 : mgOk n = true) : decide (fbB m = fbB n) = smB m n := by
  rw [(fb_yes h1).1, (fb_yes h2).1]
  rcases hb : smB m n with _ | _
  · refine decide_eq_false (fun h => ?_)
    rw [smB_iff.2 (mgB_inj hm hn h1 h2 (sealB_inj h))] at hb
    cases hb
  · rw [smB_iff.1 hb]
    exact decide_eq_true rfl
theorem zMg_wf : zMg.wf := ⟨⟨by decide, by decide⟩, ⟨by decide, by decide⟩, ⟨by decide, by decide⟩, ⟨by decide, by decide⟩, ⟨by decide, by decide⟩, ⟨by decide, by decide⟩, ⟨by decide, by decide⟩, ⟨by decide, by decide⟩, ⟨by decide, by decide⟩, ⟨by decide, by decide⟩, fun x hx => (by cases hx), fun x hx => (by cases hx)⟩
theorem frM_wf (b : List UInt8) : (frM b).wf := by
  unfold frM
  split
  · exact rdM_wf _
  · exact zMg_wf
theorem frM_its (b : List UInt8) : (frM b).its.length ≤ 4 := by
  unfold frM
  split
  · exact rdM_its _
  · exact Nat.zero_le _
theorem frM_hvs (b : List UInt8) : (frM b).hvs.length ≤ 8 := by
  unfold frM
  split
  · exact rdM_hvs _
  · exact Nat.zero_le _
theorem fb_len {m : Mg} (hw : m.wf) (h : mgOk m = true) : (fbB m).length = 41 + 18 * m.its.length + 12 * m.hvs.length := by
  rw [(fb_yes h).1, sealB_length, mgB_len hw]; omega
theorem mg_le {m : Mg} (h : mgOk m = true) : m.its.length ≤ 4 ∧ m.hvs.length ≤ 8 := by
  unfold mgOk at h
  simp only [Bool.and_eq_true, decide_eq_true_eq] at h
  exact ⟨h.1.1.1.1.1.2, h.1.1.1.1.2⟩
theorem fb_le {m : Mg} (hw : m.wf) : (fbB m).length ≤ 1000 := by
  rcases h : mgOk m with _ | _
  · rw [(fb_no h).1]; exact Nat.zero_le _
  · obtain ⟨h1, h2⟩ := mg_le h
    rw [fb_len hw h]; omega
def aMg : Mg := ⟨4, 1, 0, 0, 0, 0, 0, 0, 0, 0, [], []⟩
theorem aMg_ok : mgOk aMg = true := by decide
theorem aMg_wf : aMg.wf := ⟨⟨by decide, by decide⟩, ⟨by decide, by decide⟩, ⟨by decide, by decide⟩, ⟨by decide, by decide⟩, ⟨by decide, by decide⟩, ⟨by decide, by decide⟩, ⟨by decide, by decide⟩, ⟨by decide, by decide⟩, ⟨by decide, by decide⟩, ⟨by decide, by decide⟩, fun x hx => (by cases hx), fun x hx => (by cases hx)⟩
theorem it_nil (w : World) : kIt.C w none ([] : List It).length [] := (Kd.C_nil kIt w)
theorem hv_nil (w : World) : kHv.C w none ([] : List Hv).length [] := (Kd.C_nil kHv w)
theorem rowsl {w : World} {n c : Nat} {A : Option Addr} {xs : List UInt8} (h : (row kByte rfl 5 (.slice A n c) xs).holds w) : Sl w A c xs := by
  obtain ⟨A', c', hv, hs⟩ := Own.sl (row_own h)
  injection hv with h1 h2 h3
  subst h1 h3
  exact hs
def grB (m : Mg) : Bool := decide (40 < m.its.length) || decide (40 < m.hvs.length)
end Go.Proofs.Ytmachdikonelbaa
