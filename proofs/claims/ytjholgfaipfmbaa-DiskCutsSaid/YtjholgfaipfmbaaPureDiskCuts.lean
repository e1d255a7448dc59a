/- DiskCuts: the plain law. -/
import Derived.Test.YtjholgfaipfmbaaArgDiskCuts
set_option linter.unusedVariables false
namespace Go.Proofs.Ytjholgfaipfmbaa.PDiskCuts
theorem pure_law (a0 : Int) (g0 : (-9223372036854775808 ≤ a0 ∧ a0 ≤ 9223372036854775807)) (y1 : List Bool) (g1 : (y1.length ≤ 9223372036854775807 ∧ ∀ z1 ∈ y1, True)) : understudylaw04_DiskCuts.f a0 y1 = some true := if_pos (by omega)
end Go.Proofs.Ytjholgfaipfmbaa.PDiskCuts
