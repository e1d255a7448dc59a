-- Printed by a program of this session (wip/printx.py), which runs the kit's print with texts of its own put in.
import Derived.Test.YtkiiangookibnaaPRecordBackx0
import Derived.Test.YtkiiangookibnaaPRecordBackx1
import Derived.Test.YtkiiangookibnaaPRecordBackx2
import Derived.Test.YtkiiangookibnaaPRecordBackx3
import Derived.Test.YtkiiangookibnaaPRecordBackx4
import Derived.Test.YtkiiangookibnaaPRecordBackx5
import Derived.Test.YtkiiangookibnaaPRecordBackx6
import Derived.Test.YtkiiangookibnaaPRecordBackx7
import Derived.Test.YtkiiangookibnaaPRecordBackx8
import Derived.Test.YtkiiangookibnaaPRecordBackx9
namespace Go.Proofs.Ytkiiangookibnaa.PRecordBack
open Go.RowKit Go.Proofs.YtkiiangookibnaaW.PrintWords Go.Proofs.YtkiiangookibnaaW.PrintLast Go.Proofs.YtkiiangookibnaaW.PrintMore
attribute [local go_sem] max2_int min2_int max_two min_two max_three min_three max_four min_four   -- for this text's walks alone
set_option linter.unusedVariables false
set_option linter.unusedSimpArgs false

end Go.Proofs.Ytkiiangookibnaa.PRecordBack
