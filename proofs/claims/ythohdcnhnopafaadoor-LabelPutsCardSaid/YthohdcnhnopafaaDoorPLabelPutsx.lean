-- Printed by a program of this session (wip/printx.py), which runs the kit's print with texts of its own put in.
import Derived.Test.YthohdcnhnopafaaDoorPLabelPutsx0
import Derived.Test.YthohdcnhnopafaaDoorPLabelPutsx1
import Derived.Test.YthohdcnhnopafaaDoorPLabelPutsx2
import Derived.Test.YthohdcnhnopafaaDoorPLabelPutsx3
import Derived.Test.YthohdcnhnopafaaDoorPLabelPutsx4
namespace Go.Proofs.YthohdcnhnopafaaDoor.PLabelPuts
open Go.RowKit Go.Proofs.YthohdcnhnopafaaDoorW.PrintWords Go.Proofs.YthohdcnhnopafaaDoorW.PrintLast Go.Proofs.YthohdcnhnopafaaDoorW.PrintMore
attribute [local go_sem] max2_int min2_int max_two min_two max_three min_three max_four min_four   -- for this text's walks alone
set_option linter.unusedVariables false
set_option linter.unusedSimpArgs false

end Go.Proofs.YthohdcnhnopafaaDoor.PLabelPuts
