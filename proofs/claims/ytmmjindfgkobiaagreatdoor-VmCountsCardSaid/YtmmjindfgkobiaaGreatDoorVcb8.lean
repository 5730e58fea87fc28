/- VmCounts: the law's run for some of its 60 choices. -/
import Derived.Test.YtmmjindfgkobiaaGreatDoorVca
namespace Go.Proofs.YtmmjindfgkobiaaGreatDoor.vmCounts
open Go Go.AE
theorem run17at2 (n what w : Int) : start 17 2 n what w = tree (timers w 17 17 0) n what w := by kernel_rfl
theorem run13at2 (n what w : Int) : start 13 2 n what w = tree (timers w 13 13 0) n what w := by kernel_rfl
theorem run9at2 (n what w : Int) : start 9 2 n what w = tree (timers w 9 9 0) n what w := by kernel_rfl
theorem run5at2 (n what w : Int) : start 5 2 n what w = tree (timers w 5 5 0) n what w := by kernel_rfl
theorem run1at2 (n what w : Int) : start 1 2 n what w = tree (timers w 1 1 0) n what w := by kernel_rfl
end Go.Proofs.YtmmjindfgkobiaaGreatDoor.vmCounts
