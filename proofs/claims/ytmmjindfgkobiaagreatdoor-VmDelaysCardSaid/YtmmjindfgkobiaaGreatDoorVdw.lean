/- VmDelays: the law's function returns true. No condition. -/
import Derived.Test.YtmmjindfgkobiaaGreatDoorVo
namespace Go.Proofs.YtmmjindfgkobiaaGreatDoor.vmDelays
open Go Go.AE
set_option linter.unusedVariables false
def tree (n : Int) : Prop := br (ltI n 1) (br (ltI n 1) ((AVal.bool true = AVal.bool true)) (br (ltI 1000 n) ((AVal.bool true = AVal.bool true)) ((AVal.bool false = AVal.bool true)))) (br (ltI 1000 n) (br (ltI n 1) ((AVal.bool true = AVal.bool true)) (br (ltI 1000 n) ((AVal.bool true = AVal.bool true)) ((AVal.bool false = AVal.bool true)))) (br (ltI n 1) ((AVal.bool false = AVal.bool true)) (br (ltI 1000 n) ((AVal.bool false = AVal.bool true)) (br (eqI n n) ((AVal.bool (eqI n n) = AVal.bool true)) ((AVal.bool false = AVal.bool true))))))
theorem run (n : Int) : callQQ 100000 Cm 7 [ix n] σ00 isTrue = tree n := by kernel_rfl
theorem br_t (t f : Prop) : br true t f = t := rfl
theorem br_f (t f : Prop) : br false t f = f := rfl
theorem plain (n : Int) : tree n := by
  unfold tree
  simp only [eqI_self]
  cases ltI n 1 <;> cases ltI 1000 n <;> simp [br_t, br_f]
theorem walk (a0 : Int) (w0 : (Lit.int .i64 a0).wf = true) (w : World) :
    Calls Tryz.prog 7 #[.int .i64 a0] w fun e w' => e = .returned (.bool true) ∧ Kept w w' :=
  law_Q (C := Cm) (μ := noM) (n := 100000) (Cm_ok (L0 noM)) mixed (args := [ix a0]) (roOk_none w) (.cons (.int _ _) .nil) ⟨by rw [run]; exact plain a0⟩
end Go.Proofs.YtmmjindfgkobiaaGreatDoor.vmDelays
