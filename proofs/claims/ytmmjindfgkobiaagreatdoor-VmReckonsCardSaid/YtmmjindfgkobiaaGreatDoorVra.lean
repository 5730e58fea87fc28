/- VmReckons: the law's run for some of its operations. -/
import Derived.Test.YtmmjindfgkobiaaGreatDoorVrq
namespace Go.Proofs.YtmmjindfgkobiaaGreatDoor.vmReckons
open Go Go.AE
theorem run0 (op a b : Int) : startQ 5 Cm 4 [ix op, ix a, ix b] (good 0 op) isTrue = (ix (kx op) = ix (kx op) ∧ tree0 a b) := by kernel_rfl
theorem run1 (op a b : Int) : startQ 5 Cm 4 [ix op, ix a, ix b] (good 1 op) isTrue = (ix (kx op) = ix (kx op) ∧ tree1 a b) := by kernel_rfl
theorem run3 (op a b : Int) : startQ 5 Cm 4 [ix op, ix a, ix b] (good 3 op) isTrue = (ix (kx op) = ix (kx op) ∧ tree3 a b) := by kernel_rfl
end Go.Proofs.YtmmjindfgkobiaaGreatDoor.vmReckons
