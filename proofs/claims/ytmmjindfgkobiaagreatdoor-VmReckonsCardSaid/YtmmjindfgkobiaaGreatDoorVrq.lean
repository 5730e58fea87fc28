/- VmReckons: the run's cut, behind the choice of the operation. -/
import Derived.Test.YtmmjindfgkobiaaGreatDoorVrp
namespace Go.Proofs.YtmmjindfgkobiaaGreatDoor.vmReckons
open Go Go.AE
noncomputable def kx (op : Int) : Int := (wrapQ .i64 (int_add_F (op.tmod 8) 8)).tmod 8
noncomputable def good (k op : Int) : AConf → Res := fun c => c.fr.tmps 7 = ix (kx op) ∧ goOnQ 100000 Cm (subst [(7, ix k)] c) isTrue
end Go.Proofs.YtmmjindfgkobiaaGreatDoor.vmReckons
