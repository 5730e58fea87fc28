/- VmCounts: the law's run for some of its 60 choices. -/
import Derived.Test.YtmmjindfgkobiaaGreatDoorVca
namespace Go.Proofs.YtmmjindfgkobiaaGreatDoor.vmCounts
open Go Go.AE
theorem run17at1 (n what w : Int) : start 17 1 n what w = tree (AVal.bool true = AVal.bool true) n what w := by kernel_rfl
theorem run13at1 (n what w : Int) : start 13 1 n what w = tree (AVal.bool true = AVal.bool true) n what w := by kernel_rfl
theorem run9at1 (n what w : Int) : start 9 1 n what w = tree (AVal.bool true = AVal.bool true) n what w := by kernel_rfl
theorem run5at1 (n what w : Int) : start 5 1 n what w = tree (AVal.bool true = AVal.bool true) n what w := by kernel_rfl
theorem run1at1 (n what w : Int) : start 1 1 n what w = tree (AVal.bool true = AVal.bool true) n what w := by kernel_rfl
end Go.Proofs.YtmmjindfgkobiaaGreatDoor.vmCounts
