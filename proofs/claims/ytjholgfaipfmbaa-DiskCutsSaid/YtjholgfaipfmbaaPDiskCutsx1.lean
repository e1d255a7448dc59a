-- Printed by a program of this session (wip/printx.py), which runs the kit's print with texts of its own put in.
import Derived.Test.YtjholgfaipfmbaaPDiskCutsx0
import Derived.Test.YtjholgfaipfmbaaL4c
namespace Go.Proofs.Ytjholgfaipfmbaa.PDiskCuts
open Go.RowKit Go.Proofs.YtjholgfaipfmbaaW.PrintWords Go.Proofs.YtjholgfaipfmbaaW.PrintLast Go.Proofs.YtjholgfaipfmbaaW.PrintMore
attribute [local go_sem] max2_int min2_int max_two min_two max_three min_three max_four min_four   -- for this text's walks alone
set_option linter.unusedVariables false
set_option linter.unusedSimpArgs false

-- NOT PRINTED: function 10 (disk_New)

-- NOT PRINTED: function 30 (disk_Disk_act)

-- NOT PRINTED: function 33 (disk_Disk_there)

-- NOT PRINTED: function 13 (disk_Disk_Write)

-- NOT PRINTED: function 14 (understudylaw04_full)

-- NOT PRINTED: function 31 (disk_Disk_settle)

-- NOT PRINTED: function 16 (disk_Disk_Crash)

-- NOT PRINTED: function 18 (disk_Disk_Stable)

-- NOT PRINTED: function 19 (disk_Disk_Read)

-- NOT PRINTED: function 21 (disk_Disk_Len)

-- NOT PRINTED: function 9 (understudylaw04_diskAlive)

-- NOT PRINTED: function 11 (disk_Disk_Cut)

-- NOT PRINTED: function 12 (disk_Disk_Sync)

-- NOT PRINTED: function 15 (disk_Disk_Down)

/-! ### understudylaw04_DiskCuts: function 3 -/
-- IMPORT Derived.Test.YtjholgfaipfmbaaL4c
def understudylaw04_DiskCuts.f (a0 : Int) (l1 : List Bool) : Option Bool := if a0 < 9223372036854775808 then some true else none
theorem understudylaw04_DiskCuts.calls (a0 : Int) (A1 : Option Addr) (c1 : Nat) (l1 : List Bool) (r : Bool) (w : World) (hr1 : Kd.C Kd.bool w A1 l1.length l1) (hc1 : l1.length ≤ c1) (h : understudylaw04_DiskCuts.f a0 l1 = some r) : Calls Try.prog 3 #[.int .i64 a0, .slice A1 l1.length c1] w fun e w' => e = .returned (.bool r) ∧ Below w.heap.size w w' := by
  unfold understudylaw04_DiskCuts.f at h
  split at h
  · rename_i hn
    obtain rfl : true = r := Option.some.inj h
    exact cuts_law w a0 hn A1 c1 l1 hr1
  · cases h

end Go.Proofs.Ytjholgfaipfmbaa.PDiskCuts
