-- Printed by a program of this session (wip/printx.py), which runs the kit's print with texts of its own put in.
import Derived.Test.YtjholgfaipfmbaaPDiskCutsx0
import Derived.Test.YtjholgfaipfmbaaPDiskCutsx1
namespace Go.Proofs.Ytjholgfaipfmbaa.PDiskCuts
open Go.RowKit Go.Proofs.YtjholgfaipfmbaaW.PrintWords Go.Proofs.YtjholgfaipfmbaaW.PrintLast Go.Proofs.YtjholgfaipfmbaaW.PrintMore
attribute [local go_sem] max2_int min2_int max_two min_two max_three min_three max_four min_four   -- for this text's walks alone
set_option linter.unusedVariables false
set_option linter.unusedSimpArgs false

end Go.Proofs.Ytjholgfaipfmbaa.PDiskCuts
