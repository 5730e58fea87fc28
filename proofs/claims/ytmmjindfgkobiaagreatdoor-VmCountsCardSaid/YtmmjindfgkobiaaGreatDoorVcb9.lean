/- VmCounts: the law's run for some of its 60 choices. -/
import Derived.Test.YtmmjindfgkobiaaGreatDoorVca
namespace Go.Proofs.YtmmjindfgkobiaaGreatDoor.vmCounts
open Go Go.AE
theorem run16at0 (n what w : Int) : start 16 0 n what w = tree (AVal.bool true = AVal.bool true) n what w := by kernel_rfl
theorem run12at0 (n what w : Int) : start 12 0 n what w = tree (AVal.bool true = AVal.bool true) n what w := by kernel_rfl
theorem run8at0 (n what w : Int) : start 8 0 n what w = tree (AVal.bool true = AVal.bool true) n what w := by kernel_rfl
theorem run4at0 (n what w : Int) : start 4 0 n what w = tree (AVal.bool true = AVal.bool true) n what w := by kernel_rfl
theorem run0at0 (n what w : Int) : start 0 0 n what w = tree (AVal.bool true = AVal.bool true) n what w := by kernel_rfl
end Go.Proofs.YtmmjindfgkobiaaGreatDoor.vmCounts
