/- VmCounts: the law's run for some of its 60 choices. -/
import Derived.Test.YtmmjindfgkobiaaGreatDoorVca
namespace Go.Proofs.YtmmjindfgkobiaaGreatDoor.vmCounts
open Go Go.AE
theorem run17at0 (n what w : Int) : start 17 0 n what w = tree (AVal.bool true = AVal.bool true) n what w := by kernel_rfl
theorem run13at0 (n what w : Int) : start 13 0 n what w = tree (AVal.bool true = AVal.bool true) n what w := by kernel_rfl
theorem run9at0 (n what w : Int) : start 9 0 n what w = tree (AVal.bool true = AVal.bool true) n what w := by kernel_rfl
theorem run5at0 (n what w : Int) : start 5 0 n what w = tree (AVal.bool true = AVal.bool true) n what w := by kernel_rfl
theorem run1at0 (n what w : Int) : start 1 0 n what w = tree (AVal.bool true = AVal.bool true) n what w := by kernel_rfl
end Go.Proofs.YtmmjindfgkobiaaGreatDoor.vmCounts
