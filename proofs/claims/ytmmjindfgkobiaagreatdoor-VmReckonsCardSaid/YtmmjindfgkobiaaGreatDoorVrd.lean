/- VmReckons: the law's run for some of its operations. -/
import Derived.Test.YtmmjindfgkobiaaGreatDoorVrq
namespace Go.Proofs.YtmmjindfgkobiaaGreatDoor.vmReckons
open Go Go.AE
theorem run2 (op a b : Int) : startQ 5 Cm 4 [ix op, ix a, ix b] (good 2 op) isTrue = (ix (kx op) = ix (kx op) ∧ tree2 a b) := by kernel_rfl
end Go.Proofs.YtmmjindfgkobiaaGreatDoor.vmReckons
