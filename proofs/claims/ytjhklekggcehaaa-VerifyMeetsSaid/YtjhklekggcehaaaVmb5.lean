/- The law's run for some of its 48 choices: true. -/
import Derived.Test.YtjhklekggcehaaaVma
namespace Go.Proofs.Ytjhklekggcehaaa.verifyMeets
open Go.AE

theorem run012 (a0 a1 a2 : Int) : start a0 a1 a2 0 1 2 = same a0 a1 a2 := by kernel_rfl
theorem run032 (a0 a1 a2 : Int) : start a0 a1 a2 0 3 2 = same a0 a1 a2 := by kernel_rfl
theorem run112 (a0 a1 a2 : Int) : start a0 a1 a2 1 1 2 = same a0 a1 a2 := by kernel_rfl
theorem run132 (a0 a1 a2 : Int) : start a0 a1 a2 1 3 2 = same a0 a1 a2 := by kernel_rfl
theorem run212 (a0 a1 a2 : Int) : start a0 a1 a2 2 1 2 = same a0 a1 a2 := by kernel_rfl
theorem run232 (a0 a1 a2 : Int) : start a0 a1 a2 2 3 2 = same a0 a1 a2 := by kernel_rfl
theorem run312 (a0 a1 a2 : Int) : start a0 a1 a2 3 1 2 = same a0 a1 a2 := by kernel_rfl
theorem run332 (a0 a1 a2 : Int) : start a0 a1 a2 3 3 2 = same a0 a1 a2 := by kernel_rfl
end Go.Proofs.Ytjhklekggcehaaa.verifyMeets
