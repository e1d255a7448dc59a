/- Seal as walks want it. -/
import Derived.Test.YtenlkobjldhfgaaZRootRunsByWO
import Derived.Test.YtenlkobjldhfgaaZRootRunsCrcS
set_option linter.unusedVariables false
namespace Go.Proofs.Ytenlkobjldhfgaa
open Go.RowKit Go.Proofs.YtenlkobjldhfgaaW.PrintWords Go.Proofs.YtenlkobjldhfgaaW.PrintLast Crc
section
variable {w0 W : World} {F : Nat → Prop} {L : List Res}
theorem sealR_any (HS : St w0 F W L) (A : Option Addr) (n c m : Nat) (l : List (List UInt8)) (hn : n = l.length) (hr : Rds W A l) (hm : (sealB l.flatten).length = m) (hl : m ≤ 140737488355000) :
  Calls Try.prog 49 #[.slice A n c] W fun e w' => ∃ A c, e = .returned (.slice A m c) ∧ St w0 F w' (row kByte rfl 5 (.slice A m c) (sealB l.flatten) :: L) := by
 subst hn
 have h1 := sealB_length l.flatten
 refine (seal_any A c l W hr (by omega)).mono ?_
 rintro e w' ⟨v, rfl, ho, hb⟩
 obtain ⟨A', c', rfl, _⟩ := ho.reads
 rw [hm] at ho ⊢
 exact ⟨A', c', rfl, HS.made hb ho⟩
end
end Go.Proofs.Ytenlkobjldhfgaa
