/- The law's run for some of its 48 choices: true. -/
import Derived.Test.YtjhklekggcehaaaVma
namespace Go.Proofs.Ytjhklekggcehaaa.verifyMeets
open Go.AE

theorem run002 (a0 a1 a2 : Int) : start a0 a1 a2 0 0 2 = same a0 a1 a2 := by kernel_rfl
theorem run022 (a0 a1 a2 : Int) : start a0 a1 a2 0 2 2 = same a0 a1 a2 := by kernel_rfl
theorem run102 (a0 a1 a2 : Int) : start a0 a1 a2 1 0 2 = same a0 a1 a2 := by kernel_rfl
theorem run122 (a0 a1 a2 : Int) : start a0 a1 a2 1 2 2 = same a0 a1 a2 := by kernel_rfl
theorem run202 (a0 a1 a2 : Int) : start a0 a1 a2 2 0 2 = same a0 a1 a2 := by kernel_rfl
theorem run222 (a0 a1 a2 : Int) : start a0 a1 a2 2 2 2 = same a0 a1 a2 := by kernel_rfl
theorem run302 (a0 a1 a2 : Int) : start a0 a1 a2 3 0 2 = same a0 a1 a2 := by kernel_rfl
theorem run322 (a0 a1 a2 : Int) : start a0 a1 a2 3 2 2 = same a0 a1 a2 := by kernel_rfl
end Go.Proofs.Ytjhklekggcehaaa.verifyMeets
