/- The law's run for some of its 48 choices: true. -/
import Derived.Test.YtjhklekggcehaaaVma
namespace Go.Proofs.Ytjhklekggcehaaa.verifyMeets
open Go.AE

theorem run011 (a0 a1 a2 : Int) : start a0 a1 a2 0 1 1 = same a0 a1 a2 := by kernel_rfl
theorem run031 (a0 a1 a2 : Int) : start a0 a1 a2 0 3 1 = same a0 a1 a2 := by kernel_rfl
theorem run111 (a0 a1 a2 : Int) : start a0 a1 a2 1 1 1 = same a0 a1 a2 := by kernel_rfl
theorem run131 (a0 a1 a2 : Int) : start a0 a1 a2 1 3 1 = same a0 a1 a2 := by kernel_rfl
theorem run211 (a0 a1 a2 : Int) : start a0 a1 a2 2 1 1 = same a0 a1 a2 := by kernel_rfl
theorem run231 (a0 a1 a2 : Int) : start a0 a1 a2 2 3 1 = same a0 a1 a2 := by kernel_rfl
theorem run311 (a0 a1 a2 : Int) : start a0 a1 a2 3 1 1 = same a0 a1 a2 := by kernel_rfl
theorem run331 (a0 a1 a2 : Int) : start a0 a1 a2 3 3 1 = same a0 a1 a2 := by kernel_rfl
end Go.Proofs.Ytjhklekggcehaaa.verifyMeets
