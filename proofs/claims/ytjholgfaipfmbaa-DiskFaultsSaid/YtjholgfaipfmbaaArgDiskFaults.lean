/- What came in to 'DiskFaults', opened. -/
import Derived.Test.YtjholgfaipfmbaaPDiskFaultsx
import Derived.ProofKit
import Derived.OpenShut
import Derived.Deep.Slices
import Derived.SizedLaws
import Derived.ChangeSame
import Derived.WideShapes
namespace Go.Proofs.Ytjholgfaipfmbaa.PDiskFaults
open Go.RowKit Go.Proofs.YtjholgfaipfmbaaW.PrintWords Go.Proofs.YtjholgfaipfmbaaW.PrintLast
open Go.ChangeShapes
end Go.Proofs.Ytjholgfaipfmbaa.PDiskFaults
