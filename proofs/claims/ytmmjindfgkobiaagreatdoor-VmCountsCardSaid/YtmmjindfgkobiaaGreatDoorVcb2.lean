/- VmCounts: the law's run for some of its 60 choices. -/
import Derived.Test.YtmmjindfgkobiaaGreatDoorVca
namespace Go.Proofs.YtmmjindfgkobiaaGreatDoor.vmCounts
open Go Go.AE
theorem run19at2 (n what w : Int) : start 19 2 n what w = tree (timers w 19 19 0) n what w := by kernel_rfl
theorem run15at2 (n what w : Int) : start 15 2 n what w = tree (timers w 15 15 0) n what w := by kernel_rfl
theorem run11at2 (n what w : Int) : start 11 2 n what w = tree (timers w 11 11 0) n what w := by kernel_rfl
theorem run7at2 (n what w : Int) : start 7 2 n what w = tree (timers w 7 7 0) n what w := by kernel_rfl
theorem run3at2 (n what w : Int) : start 3 2 n what w = tree (timers w 3 3 0) n what w := by kernel_rfl
end Go.Proofs.YtmmjindfgkobiaaGreatDoor.vmCounts
