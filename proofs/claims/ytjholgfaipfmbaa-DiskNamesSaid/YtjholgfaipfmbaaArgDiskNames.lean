/- What came in to 'DiskNames', opened. -/
import Derived.Test.YtjholgfaipfmbaaPDiskNamesx
import Derived.ProofKit
import Derived.OpenShut
import Derived.Deep.Slices
import Derived.SizedLaws
import Derived.ChangeSame
import Derived.WideShapes
namespace Go.Proofs.Ytjholgfaipfmbaa.PDiskNames
open Go.RowKit Go.Proofs.YtjholgfaipfmbaaW.PrintWords Go.Proofs.YtjholgfaipfmbaaW.PrintLast
open Go.ChangeShapes
end Go.Proofs.Ytjholgfaipfmbaa.PDiskNames
