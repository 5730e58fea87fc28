/- VmReckons: the law's run for some of its operations. -/
import Derived.Test.YtmmjindfgkobiaaGreatDoorVrq
namespace Go.Proofs.YtmmjindfgkobiaaGreatDoor.vmReckons
open Go Go.AE
theorem run4 (op a b : Int) : startQ 5 Cm 4 [ix op, ix a, ix b] (good 4 op) isTrue = (ix (kx op) = ix (kx op) ∧ tree4 a b) := by kernel_rfl
theorem run5 (op a b : Int) : startQ 5 Cm 4 [ix op, ix a, ix b] (good 5 op) isTrue = (ix (kx op) = ix (kx op) ∧ tree5 a b) := by kernel_rfl
end Go.Proofs.YtmmjindfgkobiaaGreatDoor.vmReckons
