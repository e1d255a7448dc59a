/- DiskNames, DiskFaults, DiskCuts. -/
import Derived.Test.YtenlkobjldhfgaaZRootRunsDkP
import Derived.Test.YtenlkobjldhfgaaZRootRunsWkDE
import Derived.Test.YtenlkobjldhfgaaZRootRunsV8
set_option linter.unusedVariables false
set_option linter.unusedSimpArgs false
namespace Go.Proofs.Ytenlkobjldhfgaa
open Go.RowKit Go.Proofs.YtenlkobjldhfgaaW.PrintWords Go.Proofs.YtenlkobjldhfgaaW.PrintLast
section
variable {S : Dk}
theorem there_len {T : Dk} {i : Int} (h : S.stable.length = T.stable.length) : S.there i = T.there i := by unfold Dk.there; rw [h]
structure Dk.free (S : Dk) : Prop where
 lf : S.left = -1
 dn : S.down = false
end
section
variable {i a b : Int}
def G (i a : Int) (f : Int → Int) (p : List (Int × List Int)) (c : Nat) : Dk := { stable := (List.replicate 10 zpg).set i.toNat (rep a), bad := f, pending := p, left := -1, down := false, cnt := c }
end
end Go.Proofs.Ytenlkobjldhfgaa
