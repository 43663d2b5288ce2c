/- A variable of a type at a place of another one: the law VarsTypes returns true for all numbers. Conditions: none. -/
import Derived.Test.YtgphpcdkdfdphaaGreatDoorEvVarsTypes0
namespace Go.Proofs.YtgphpcdkdfdphaaGreatDoor.evVarsTypes
open Go.Ev
theorem c_0_0_2 : cases 0 0 2 = true := by kernel_rfl
theorem c_1_0_0 : cases 1 0 0 = true := by kernel_rfl
theorem c_1_1_1 : cases 1 1 1 = true := by kernel_rfl
theorem c_2_0_2 : cases 2 0 2 = true := by kernel_rfl
theorem c_3_0_0 : cases 3 0 0 = true := by kernel_rfl
theorem c_3_1_1 : cases 3 1 1 = true := by kernel_rfl
theorem c_4_0_2 : cases 4 0 2 = true := by kernel_rfl
theorem c_5_0_0 : cases 5 0 0 = true := by kernel_rfl
theorem c_5_1_1 : cases 5 1 1 = true := by kernel_rfl
end Go.Proofs.YtgphpcdkdfdphaaGreatDoor.evVarsTypes
