/- The law's run for some of its 48 choices: true. -/
import Derived.Test.YtjhklekggcehaaaVma
namespace Go.Proofs.Ytjhklekggcehaaa.verifyMeets
open Go.AE

theorem run010 (a0 a1 a2 : Int) : start a0 a1 a2 0 1 0 = same a0 a1 a2 := by kernel_rfl
theorem run030 (a0 a1 a2 : Int) : start a0 a1 a2 0 3 0 = same a0 a1 a2 := by kernel_rfl
theorem run110 (a0 a1 a2 : Int) : start a0 a1 a2 1 1 0 = same a0 a1 a2 := by kernel_rfl
theorem run130 (a0 a1 a2 : Int) : start a0 a1 a2 1 3 0 = same a0 a1 a2 := by kernel_rfl
theorem run210 (a0 a1 a2 : Int) : start a0 a1 a2 2 1 0 = same a0 a1 a2 := by kernel_rfl
theorem run230 (a0 a1 a2 : Int) : start a0 a1 a2 2 3 0 = same a0 a1 a2 := by kernel_rfl
theorem run310 (a0 a1 a2 : Int) : start a0 a1 a2 3 1 0 = same a0 a1 a2 := by kernel_rfl
theorem run330 (a0 a1 a2 : Int) : start a0 a1 a2 3 3 0 = same a0 a1 a2 := by kernel_rfl
end Go.Proofs.Ytjhklekggcehaaa.verifyMeets
