/- A disk whose acts nobody counts: plain. -/
import Derived.Test.YtiokdpnhaemciaaDkP
set_option linter.unusedVariables false
set_option linter.unusedSimpArgs false
namespace Go.Proofs.Ytiokdpnhaemciaa
open Go.RowKit Go.Proofs.YtiokdpnhaemciaaW.PrintWords Go.Proofs.YtiokdpnhaemciaaW.PrintLast
section
variable {S : Dk}
/-- Nothing counts the acts. -/
structure Dk.free (S : Dk) : Prop where
  lf : S.left = -1
  dn : S.down = false
theorem fre_acts (h : S.free) : S.acts = true := by unfold Dk.acts; rw [h.dn, h.lf]; rfl
theorem fre_act (h : S.free) : S.act = S := by
  unfold Dk.act
  rw [if_pos (fre_acts h)]
  obtain ⟨h1, h2⟩ := h
  cases S
  simp only at h1
  subst h1
  rfl
theorem fre_new (n : Int) : (Dk.new n).free := ⟨rfl, rfl⟩
theorem fre_write (h : S.free) {i : Int} (ht : S.there i = true) (p : List Int) : S.write i p = { S with pending := S.pending ++ [(i, p)] } := by
  unfold Dk.write
  rw [if_pos ht, if_pos (fre_acts h), fre_act h]
theorem fre_writeE (h : S.free) {i : Int} (ht : S.there i = true) : S.writeE i = 0 := by unfold Dk.writeE; rw [if_pos ht, actE_eq, if_pos (fre_acts h)]
theorem rd_ok {i : Int} (ht : S.there i = true) (hb : S.bad i = 0) : S.readE i = 0 ∧ S.readP i = lastW S.pending i (S.at i) := by
  have h : ¬ 0 < S.bad i := by omega
  unfold Dk.readE Dk.readP
  rw [if_pos ht, if_pos ht, if_neg h, if_neg h]
  exact ⟨rfl, rfl⟩
theorem rd_no {i : Int} (ht : S.there i = false) : S.readE i = 41 := by unfold Dk.readE; rw [ht]; rfl
end
end Go.Proofs.Ytiokdpnhaemciaa
