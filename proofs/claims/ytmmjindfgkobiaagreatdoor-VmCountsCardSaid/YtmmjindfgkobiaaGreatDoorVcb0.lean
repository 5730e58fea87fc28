/- VmCounts: the law's run for some of its 60 choices. -/
import Derived.Test.YtmmjindfgkobiaaGreatDoorVca
namespace Go.Proofs.YtmmjindfgkobiaaGreatDoor.vmCounts
open Go Go.AE
theorem run19at0 (n what w : Int) : start 19 0 n what w = tree (AVal.bool true = AVal.bool true) n what w := by kernel_rfl
theorem run15at0 (n what w : Int) : start 15 0 n what w = tree (AVal.bool true = AVal.bool true) n what w := by kernel_rfl
theorem run11at0 (n what w : Int) : start 11 0 n what w = tree (AVal.bool true = AVal.bool true) n what w := by kernel_rfl
theorem run7at0 (n what w : Int) : start 7 0 n what w = tree (AVal.bool true = AVal.bool true) n what w := by kernel_rfl
theorem run3at0 (n what w : Int) : start 3 0 n what w = tree (AVal.bool true = AVal.bool true) n what w := by kernel_rfl
end Go.Proofs.YtmmjindfgkobiaaGreatDoor.vmCounts
