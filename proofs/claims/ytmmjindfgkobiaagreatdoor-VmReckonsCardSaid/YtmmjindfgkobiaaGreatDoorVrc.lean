/- VmReckons: the law's run for some of its operations. -/
import Derived.Test.YtmmjindfgkobiaaGreatDoorVrq
namespace Go.Proofs.YtmmjindfgkobiaaGreatDoor.vmReckons
open Go Go.AE
theorem run6 (op a b : Int) : startQ 5 Cm 4 [ix op, ix a, ix b] (good 6 op) isTrue = (ix (kx op) = ix (kx op) ∧ tree6 a b) := by kernel_rfl
theorem run7 (op a b : Int) : startQ 5 Cm 4 [ix op, ix a, ix b] (good 7 op) isTrue = (ix (kx op) = ix (kx op) ∧ tree7 a b) := by kernel_rfl
end Go.Proofs.YtmmjindfgkobiaaGreatDoor.vmReckons
