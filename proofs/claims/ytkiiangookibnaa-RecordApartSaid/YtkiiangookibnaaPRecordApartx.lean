-- Printed by a program of this session (wip/printx.py), which runs the kit's print with texts of its own put in.
import Derived.Test.YtkiiangookibnaaPRecordApartx0
import Derived.Test.YtkiiangookibnaaPRecordApartx1
import Derived.Test.YtkiiangookibnaaPRecordApartx2
import Derived.Test.YtkiiangookibnaaPRecordApartx3
import Derived.Test.YtkiiangookibnaaPRecordApartx4
import Derived.Test.YtkiiangookibnaaPRecordApartx5
import Derived.Test.YtkiiangookibnaaPRecordApartx6
import Derived.Test.YtkiiangookibnaaPRecordApartx7
import Derived.Test.YtkiiangookibnaaPRecordApartx8
import Derived.Test.YtkiiangookibnaaPRecordApartx9
namespace Go.Proofs.Ytkiiangookibnaa.PRecordApart
open Go.RowKit Go.Proofs.YtkiiangookibnaaW.PrintWords Go.Proofs.YtkiiangookibnaaW.PrintLast Go.Proofs.YtkiiangookibnaaW.PrintMore
attribute [local go_sem] max2_int min2_int max_two min_two max_three min_three max_four min_four   -- for this text's walks alone
set_option linter.unusedVariables false
set_option linter.unusedSimpArgs false

end Go.Proofs.Ytkiiangookibnaa.PRecordApart
