/- DiskNames: the plain law. -/
import Derived.Test.YtjholgfaipfmbaaArgDiskNames
namespace Go.Proofs.Ytjholgfaipfmbaa.PDiskNames
theorem pure_law : understudylaw04_DiskNames.f = some true := rfl
end Go.Proofs.Ytjholgfaipfmbaa.PDiskNames
