/- Frames, plain: there and back; what is turned is found. -/
import Derived.Test.YtmachdikonelbaaZFrameReadsFr8
import Derived.Test.YtmachdikonelbaaZFrameReadsFr7
set_option linter.unusedVariables false
set_option linter.unusedSimpArgs false
namespace Go.Proofs.Ytmachdikonelbaa
open Go.RowKit Go.Proofs.YtmachdikonelbaaW.PrintWords Go.Proofs.YtmachdikonelbaaW.PrintLast Crc
theorem seal_sum (l : List UInt8) : sumB init (sealB l) = 0#32 := by
  unfold sealB
  rw [sumB_append, sumB_eq _ (tailB _), tailB_eq]
  exact (tail_iff _ _ _ _ _).2 rfl
theorem okS_seal (l : List UInt8) : okS (sealB l) = true := by
  unfold okS
  rw [seal_sum, decide_eq_true (show 4 ≤ (sealB l).length by rw [sealB_length]; omega)]
  rfl
theorem bdyS_seal (l : List UInt8) : bdyS (sealB l) = l := by
  unfold bdyS
  rw [if_pos (okS_seal l), sealB_length, Nat.add_sub_cancel]
  unfold sealB
  exact List.take_left' rfl
theorem fr_back {m : Mg} (hw : m.wf) (h : mgOk m = true) : fOk (fbB m) = true ∧ frM (fbB m) = m ∧ frE (fbB m) = 0 := by
  have e0 : fbB m = sealB (mgB m) := (fb_yes h).1
  have e1 : inM (fbB m) = m := by unfold inM; rw [e0, bdyS_seal, rd_mg hw h]
  have e2 : fOk (fbB m) = true := by
    unfold fOk
    rw [e1, e0, okS_seal, h]
    simp
  obtain ⟨e3, e4⟩ := fr_yes e2
  exact ⟨e2, by rw [e3, e1], e4⟩
theorem frM_its (b : List UInt8) : (frM b).its.length ≤ 4 := by
  unfold frM
  split
  · exact rdM_its _
  · exact Nat.zero_le _
theorem frM_hvs (b : List UInt8) : (frM b).hvs.length ≤ 8 := by
  unfold frM
  split
  · exact rdM_hvs _
  · exact Nat.zero_le _
theorem fb_len {m : Mg} (hw : m.wf) (h : mgOk m = true) : (fbB m).length = 41 + 18 * m.its.length + 12 * m.hvs.length := by
  rw [(fb_yes h).1, sealB_length, mgB_len hw]; omega
def aMg : Mg := ⟨4, 1, 0, 0, 0, 0, 0, 0, 0, 0, [], []⟩
theorem aMg_ok : mgOk aMg = true := by decide
theorem aMg_wf : aMg.wf := ⟨⟨by decide, by decide⟩, ⟨by decide, by decide⟩, ⟨by decide, by decide⟩, ⟨by decide, by decide⟩, ⟨by decide, by decide⟩, ⟨by decide, by decide⟩, ⟨by decide, by decide⟩, ⟨by decide, by decide⟩, ⟨by decide, by decide⟩, ⟨by decide, by decide⟩, fun x hx => (by cases hx), fun x hx => (by cases hx)⟩
theorem it_nil (w : World) : kIt.C w none ([] : List It).length [] := (Kd.C_nil kIt w)
theorem hv_nil (w : World) : kHv.C w none ([] : List Hv).length [] := (Kd.C_nil kHv w)
theorem rowsl {w : World} {n c : Nat} {A : Option Addr} {xs : List UInt8} (h : (row kByte rfl 5 (.slice A n c) xs).holds w) : Sl w A c xs := by
  obtain ⟨A', c', hv, hs⟩ := Own.sl (row_own h)
  injection hv with h1 h2 h3
  subst h1 h3
  exact hs
end Go.Proofs.Ytmachdikonelbaa
