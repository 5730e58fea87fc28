/- VmCounts: the law's run for some of its 60 choices. -/
import Derived.Test.YtmmjindfgkobiaaGreatDoorVca
namespace Go.Proofs.YtmmjindfgkobiaaGreatDoor.vmCounts
open Go Go.AE
theorem run19at1 (n what w : Int) : start 19 1 n what w = tree (AVal.bool true = AVal.bool true) n what w := by kernel_rfl
theorem run15at1 (n what w : Int) : start 15 1 n what w = tree (AVal.bool true = AVal.bool true) n what w := by kernel_rfl
theorem run11at1 (n what w : Int) : start 11 1 n what w = tree (AVal.bool true = AVal.bool true) n what w := by kernel_rfl
theorem run7at1 (n what w : Int) : start 7 1 n what w = tree (AVal.bool true = AVal.bool true) n what w := by kernel_rfl
theorem run3at1 (n what w : Int) : start 3 1 n what w = tree (AVal.bool true = AVal.bool true) n what w := by kernel_rfl
end Go.Proofs.YtmmjindfgkobiaaGreatDoor.vmCounts
