/- Fields with so many arguments, directives, sets, an alias or none, print as the page writes them: the law PrintWords returns true for all arguments. Conditions: none. -/
import Derived.Test.YtdedgkgeflpkgaaGreatDoorEvPrintWords0
namespace Go.Proofs.YtdedgkgeflpkgaaGreatDoor.evPrintWords
open Go.Ev
theorem c_0_0_0 : cases 0 0 0 = true := by kernel_rfl
theorem c_0_1_0 : cases 0 1 0 = true := by kernel_rfl
theorem c_0_2_0 : cases 0 2 0 = true := by kernel_rfl
theorem c_0_3_0 : cases 0 3 0 = true := by kernel_rfl
theorem c_1_0_0 : cases 1 0 0 = true := by kernel_rfl
theorem c_1_1_0 : cases 1 1 0 = true := by kernel_rfl
theorem c_1_2_0 : cases 1 2 0 = true := by kernel_rfl
theorem c_1_3_0 : cases 1 3 0 = true := by kernel_rfl
theorem c_2_0_0 : cases 2 0 0 = true := by kernel_rfl
theorem c_2_1_0 : cases 2 1 0 = true := by kernel_rfl
theorem c_2_2_0 : cases 2 2 0 = true := by kernel_rfl
theorem c_2_3_0 : cases 2 3 0 = true := by kernel_rfl
theorem c_3_0_0 : cases 3 0 0 = true := by kernel_rfl
theorem c_3_1_0 : cases 3 1 0 = true := by kernel_rfl
theorem c_3_2_0 : cases 3 2 0 = true := by kernel_rfl
theorem c_3_3_0 : cases 3 3 0 = true := by kernel_rfl
theorem c_4_0_0 : cases 4 0 0 = true := by kernel_rfl
theorem c_4_1_0 : cases 4 1 0 = true := by kernel_rfl
theorem c_4_2_0 : cases 4 2 0 = true := by kernel_rfl
theorem c_4_3_0 : cases 4 3 0 = true := by kernel_rfl
end Go.Proofs.YtdedgkgeflpkgaaGreatDoor.evPrintWords
