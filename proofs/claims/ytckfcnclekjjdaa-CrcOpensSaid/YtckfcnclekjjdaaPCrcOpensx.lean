-- Printed by a program of this session (wip/printx.py), which runs the kit's print with texts of its own put in.
import Derived.Test.YtckfcnclekjjdaaPCrcOpensx0
import Derived.Test.YtckfcnclekjjdaaPCrcOpensx1
namespace Go.Proofs.Ytckfcnclekjjdaa.PCrcOpens
open Go.RowKit Go.Proofs.YtckfcnclekjjdaaW.PrintWords Go.Proofs.YtckfcnclekjjdaaW.PrintLast Go.Proofs.YtckfcnclekjjdaaW.PrintMore
attribute [local go_sem] max2_int min2_int max_two min_two max_three min_three max_four min_four   -- for this text's walks alone
set_option linter.unusedVariables false
set_option linter.unusedSimpArgs false

end Go.Proofs.Ytckfcnclekjjdaa.PCrcOpens
