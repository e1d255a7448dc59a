/- DiskFaults: the plain law. -/
import Derived.Test.YtjholgfaipfmbaaArgDiskFaults
set_option linter.unusedVariables false
namespace Go.Proofs.Ytjholgfaipfmbaa.PDiskFaults
theorem pure_law (a0 : Int) (g0 : (-9223372036854775808 ≤ a0 ∧ a0 ≤ 9223372036854775807)) (a1 : Int) (g1 : (0 ≤ a1 ∧ a1 ≤ 255)) (a2 : Int) (g2 : (0 ≤ a2 ∧ a2 ≤ 255)) : understudylaw04_DiskFaults.f a0 a1 a2 = some true := rfl
end Go.Proofs.Ytjholgfaipfmbaa.PDiskFaults
