/- What came in to 'LabelNames', opened. -/
import Derived.Test.YthohdcnhnopafaaDoorPLabelNamesx
import Derived.ProofKit
import Derived.OpenShut
import Derived.Deep.Slices
import Derived.SizedLaws
import Derived.ChangeSame
import Derived.WideShapes
namespace Go.Proofs.YthohdcnhnopafaaDoor.PLabelNames
open Go.RowKit Go.Proofs.YthohdcnhnopafaaDoorW.PrintWords Go.Proofs.YthohdcnhnopafaaDoorW.PrintLast
open Go.ChangeShapes
end Go.Proofs.YthohdcnhnopafaaDoor.PLabelNames
