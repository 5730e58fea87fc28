/- VmCounts: the law's run for some of its 60 choices. -/
import Derived.Test.YtmmjindfgkobiaaGreatDoorVca
namespace Go.Proofs.YtmmjindfgkobiaaGreatDoor.vmCounts
open Go Go.AE
theorem run18at1 (n what w : Int) : start 18 1 n what w = tree (AVal.bool true = AVal.bool true) n what w := by kernel_rfl
theorem run14at1 (n what w : Int) : start 14 1 n what w = tree (AVal.bool true = AVal.bool true) n what w := by kernel_rfl
theorem run10at1 (n what w : Int) : start 10 1 n what w = tree (AVal.bool true = AVal.bool true) n what w := by kernel_rfl
theorem run6at1 (n what w : Int) : start 6 1 n what w = tree (AVal.bool true = AVal.bool true) n what w := by kernel_rfl
theorem run2at1 (n what w : Int) : start 2 1 n what w = tree (AVal.bool true = AVal.bool true) n what w := by kernel_rfl
end Go.Proofs.YtmmjindfgkobiaaGreatDoor.vmCounts
