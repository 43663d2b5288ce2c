/- Fields with so many arguments, directives, sets, an alias or none, print as the page writes them: the law PrintWords returns true for all arguments. Conditions: none. -/
import Derived.Test.YtdedgkgeflpkgaaGreatDoorEvPrintWords0
namespace Go.Proofs.YtdedgkgeflpkgaaGreatDoor.evPrintWords
open Go.Ev
theorem c_0_0_1 : cases 0 0 1 = true := by kernel_rfl
theorem c_0_1_1 : cases 0 1 1 = true := by kernel_rfl
theorem c_0_2_1 : cases 0 2 1 = true := by kernel_rfl
theorem c_0_3_1 : cases 0 3 1 = true := by kernel_rfl
theorem c_1_0_1 : cases 1 0 1 = true := by kernel_rfl
theorem c_1_1_1 : cases 1 1 1 = true := by kernel_rfl
theorem c_1_2_1 : cases 1 2 1 = true := by kernel_rfl
theorem c_1_3_1 : cases 1 3 1 = true := by kernel_rfl
theorem c_2_0_1 : cases 2 0 1 = true := by kernel_rfl
theorem c_2_1_1 : cases 2 1 1 = true := by kernel_rfl
theorem c_2_2_1 : cases 2 2 1 = true := by kernel_rfl
theorem c_2_3_1 : cases 2 3 1 = true := by kernel_rfl
theorem c_3_0_1 : cases 3 0 1 = true := by kernel_rfl
theorem c_3_1_1 : cases 3 1 1 = true := by kernel_rfl
theorem c_3_2_1 : cases 3 2 1 = true := by kernel_rfl
theorem c_3_3_1 : cases 3 3 1 = true := by kernel_rfl
theorem c_4_0_1 : cases 4 0 1 = true := by kernel_rfl
theorem c_4_1_1 : cases 4 1 1 = true := by kernel_rfl
theorem c_4_2_1 : cases 4 2 1 = true := by kernel_rfl
theorem c_4_3_1 : cases 4 3 1 = true := by kernel_rfl
end Go.Proofs.YtdedgkgeflpkgaaGreatDoor.evPrintWords
