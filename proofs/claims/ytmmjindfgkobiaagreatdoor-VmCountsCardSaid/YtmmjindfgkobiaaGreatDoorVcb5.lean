/- VmCounts: the law's run for some of its 60 choices. -/
import Derived.Test.YtmmjindfgkobiaaGreatDoorVca
namespace Go.Proofs.YtmmjindfgkobiaaGreatDoor.vmCounts
open Go Go.AE
theorem run18at2 (n what w : Int) : start 18 2 n what w = tree (timers w 18 18 0) n what w := by kernel_rfl
theorem run14at2 (n what w : Int) : start 14 2 n what w = tree (timers w 14 14 0) n what w := by kernel_rfl
theorem run10at2 (n what w : Int) : start 10 2 n what w = tree (timers w 10 10 0) n what w := by kernel_rfl
theorem run6at2 (n what w : Int) : start 6 2 n what w = tree (timers w 6 6 0) n what w := by kernel_rfl
theorem run2at2 (n what w : Int) : start 2 2 n what w = tree (timers w 2 2 0) n what w := by kernel_rfl
end Go.Proofs.YtmmjindfgkobiaaGreatDoor.vmCounts
