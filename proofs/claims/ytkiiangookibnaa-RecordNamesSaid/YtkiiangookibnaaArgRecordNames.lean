/- What came in to 'RecordNames', opened. -/
import Derived.Test.YtkiiangookibnaaPRecordNamesx
import Derived.ProofKit
import Derived.OpenShut
import Derived.Deep.Slices
import Derived.SizedLaws
import Derived.ChangeSame
import Derived.WideShapes
namespace Go.Proofs.Ytkiiangookibnaa.PRecordNames
open Go.RowKit Go.Proofs.YtkiiangookibnaaW.PrintWords Go.Proofs.YtkiiangookibnaaW.PrintLast
open Go.ChangeShapes
end Go.Proofs.Ytkiiangookibnaa.PRecordNames
