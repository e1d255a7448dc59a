/- RecordNames: the plain law: it is closed. -/
import Derived.Test.YtkiiangookibnaaArgRecordNames
namespace Go.Proofs.Ytkiiangookibnaa.PRecordNames
open Go.RowKit Go.Proofs.YtkiiangookibnaaW.PrintWords Go.Proofs.YtkiiangookibnaaW.PrintLast Go.Proofs.YtkiiangookibnaaW.PrintMore
theorem pure_law : ∃ k, understudylaw14_RecordNames.f k = some true := ⟨100, by kernel_rfl⟩
end Go.Proofs.Ytkiiangookibnaa.PRecordNames
