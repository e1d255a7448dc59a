-- Printed by a program of this session (wip/printx.py), which runs the kit's print with texts of its own put in.
import Derived.Test.YtjholgfaipfmbaaPDiskFaultsx0
import Derived.Test.YtjholgfaipfmbaaL4f
namespace Go.Proofs.Ytjholgfaipfmbaa.PDiskFaults
open Go.RowKit Go.Proofs.YtjholgfaipfmbaaW.PrintWords Go.Proofs.YtjholgfaipfmbaaW.PrintLast Go.Proofs.YtjholgfaipfmbaaW.PrintMore
attribute [local go_sem] max2_int min2_int max_two min_two max_three min_three max_four min_four   -- for this text's walks alone
set_option linter.unusedVariables false
set_option linter.unusedSimpArgs false

-- NOT PRINTED: function 10 (disk_New)

-- NOT PRINTED: function 30 (disk_Disk_act)

-- NOT PRINTED: function 33 (disk_Disk_there)

-- NOT PRINTED: function 13 (disk_Disk_Write)

-- NOT PRINTED: function 14 (understudylaw04_full)

-- NOT PRINTED: function 31 (disk_Disk_settle)

-- NOT PRINTED: function 16 (disk_Disk_Crash)

-- NOT PRINTED: function 18 (disk_Disk_Stable)

-- NOT PRINTED: function 19 (disk_Disk_Read)

-- NOT PRINTED: function 21 (disk_Disk_Len)

-- NOT PRINTED: function 9 (understudylaw04_diskAlive)

-- NOT PRINTED: function 12 (disk_Disk_Sync)

-- NOT PRINTED: function 20 (disk_Disk_Spoil)

/-! ### understudylaw04_DiskFaults: function 6 -/
-- IMPORT Derived.Test.YtjholgfaipfmbaaL4f
def understudylaw04_DiskFaults.f (a0 : Int) (a1 : Int) (a2 : Int) : Option Bool := some true
theorem understudylaw04_DiskFaults.calls (a0 : Int) (a1 : Int) (a2 : Int) (r : Bool) (w : World) (h : understudylaw04_DiskFaults.f a0 a1 a2 = some r) : Calls Try.prog 6 #[.int .i64 a0, .int .u8 a1, .int .u8 a2] w fun e w' => e = .returned (.bool r) ∧ Below w.heap.size w w' := by
  obtain rfl : true = r := Option.some.inj h
  exact faults_law w a0 a1 a2

end Go.Proofs.Ytjholgfaipfmbaa.PDiskFaults
