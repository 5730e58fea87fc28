/- VmCounts: the law's run for some of its 60 choices. -/
import Derived.Test.YtmmjindfgkobiaaGreatDoorVca
namespace Go.Proofs.YtmmjindfgkobiaaGreatDoor.vmCounts
open Go Go.AE
theorem run16at2 (n what w : Int) : start 16 2 n what w = tree (timers w 16 16 0) n what w := by kernel_rfl
theorem run12at2 (n what w : Int) : start 12 2 n what w = tree (timers w 12 12 0) n what w := by kernel_rfl
theorem run8at2 (n what w : Int) : start 8 2 n what w = tree (timers w 8 8 0) n what w := by kernel_rfl
theorem run4at2 (n what w : Int) : start 4 2 n what w = tree (timers w 4 4 0) n what w := by kernel_rfl
theorem run0at2 (n what w : Int) : start 0 2 n what w = tree (timers w 0 0 0) n what w := by kernel_rfl
end Go.Proofs.YtmmjindfgkobiaaGreatDoor.vmCounts
