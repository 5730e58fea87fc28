/- The law's run for some of its 48 choices: true. -/
import Derived.Test.YtjhklekggcehaaaVma
namespace Go.Proofs.Ytjhklekggcehaaa.verifyMeets
open Go.AE

theorem run000 (a0 a1 a2 : Int) : start a0 a1 a2 0 0 0 = same a0 a1 a2 := by kernel_rfl
theorem run020 (a0 a1 a2 : Int) : start a0 a1 a2 0 2 0 = same a0 a1 a2 := by kernel_rfl
theorem run100 (a0 a1 a2 : Int) : start a0 a1 a2 1 0 0 = same a0 a1 a2 := by kernel_rfl
theorem run120 (a0 a1 a2 : Int) : start a0 a1 a2 1 2 0 = same a0 a1 a2 := by kernel_rfl
theorem run200 (a0 a1 a2 : Int) : start a0 a1 a2 2 0 0 = same a0 a1 a2 := by kernel_rfl
theorem run220 (a0 a1 a2 : Int) : start a0 a1 a2 2 2 0 = same a0 a1 a2 := by kernel_rfl
theorem run300 (a0 a1 a2 : Int) : start a0 a1 a2 3 0 0 = same a0 a1 a2 := by kernel_rfl
theorem run320 (a0 a1 a2 : Int) : start a0 a1 a2 3 2 0 = same a0 a1 a2 := by kernel_rfl
end Go.Proofs.Ytjhklekggcehaaa.verifyMeets
