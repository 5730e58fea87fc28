/- VmCounts: the law's run for some of its 60 choices. -/
import Derived.Test.YtmmjindfgkobiaaGreatDoorVca
namespace Go.Proofs.YtmmjindfgkobiaaGreatDoor.vmCounts
open Go Go.AE
theorem run16at1 (n what w : Int) : start 16 1 n what w = tree (AVal.bool true = AVal.bool true) n what w := by kernel_rfl
theorem run12at1 (n what w : Int) : start 12 1 n what w = tree (AVal.bool true = AVal.bool true) n what w := by kernel_rfl
theorem run8at1 (n what w : Int) : start 8 1 n what w = tree (AVal.bool true = AVal.bool true) n what w := by kernel_rfl
theorem run4at1 (n what w : Int) : start 4 1 n what w = tree (AVal.bool true = AVal.bool true) n what w := by kernel_rfl
theorem run0at1 (n what w : Int) : start 0 1 n what w = tree (AVal.bool true = AVal.bool true) n what w := by kernel_rfl
end Go.Proofs.YtmmjindfgkobiaaGreatDoor.vmCounts
