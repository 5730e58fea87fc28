/- The law's run for some of its 48 choices: true. -/
import Derived.Test.YtjhklekggcehaaaVma
namespace Go.Proofs.Ytjhklekggcehaaa.verifyMeets
open Go.AE

theorem run001 (a0 a1 a2 : Int) : start a0 a1 a2 0 0 1 = same a0 a1 a2 := by kernel_rfl
theorem run021 (a0 a1 a2 : Int) : start a0 a1 a2 0 2 1 = same a0 a1 a2 := by kernel_rfl
theorem run101 (a0 a1 a2 : Int) : start a0 a1 a2 1 0 1 = same a0 a1 a2 := by kernel_rfl
theorem run121 (a0 a1 a2 : Int) : start a0 a1 a2 1 2 1 = same a0 a1 a2 := by kernel_rfl
theorem run201 (a0 a1 a2 : Int) : start a0 a1 a2 2 0 1 = same a0 a1 a2 := by kernel_rfl
theorem run221 (a0 a1 a2 : Int) : start a0 a1 a2 2 2 1 = same a0 a1 a2 := by kernel_rfl
theorem run301 (a0 a1 a2 : Int) : start a0 a1 a2 3 0 1 = same a0 a1 a2 := by kernel_rfl
theorem run321 (a0 a1 a2 : Int) : start a0 a1 a2 3 2 1 = same a0 a1 a2 := by kernel_rfl
end Go.Proofs.Ytjhklekggcehaaa.verifyMeets
