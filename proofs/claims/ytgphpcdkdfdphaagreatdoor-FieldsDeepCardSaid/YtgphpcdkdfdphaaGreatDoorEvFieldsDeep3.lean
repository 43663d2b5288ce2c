/- A field that there is not is found, so deep, behind so many: the law FieldsDeep returns true for all arguments. Conditions: none. -/
import Derived.Test.YtgphpcdkdfdphaaGreatDoorEvFieldsDeep0
namespace Go.Proofs.YtgphpcdkdfdphaaGreatDoor.evFieldsDeep
open Go.Ev
theorem c_0_1_false : cases 0 1 false = true := by kernel_rfl
theorem c_0_7_false : cases 0 7 false = true := by kernel_rfl
theorem c_1_4_false : cases 1 4 false = true := by kernel_rfl
theorem c_2_1_false : cases 2 1 false = true := by kernel_rfl
theorem c_2_7_false : cases 2 7 false = true := by kernel_rfl
theorem c_3_4_false : cases 3 4 false = true := by kernel_rfl
theorem c_4_1_false : cases 4 1 false = true := by kernel_rfl
theorem c_4_7_false : cases 4 7 false = true := by kernel_rfl
theorem c_5_4_false : cases 5 4 false = true := by kernel_rfl
theorem c_6_1_false : cases 6 1 false = true := by kernel_rfl
theorem c_6_7_false : cases 6 7 false = true := by kernel_rfl
theorem c_7_4_false : cases 7 4 false = true := by kernel_rfl
theorem c_8_1_false : cases 8 1 false = true := by kernel_rfl
theorem c_8_7_false : cases 8 7 false = true := by kernel_rfl
end Go.Proofs.YtgphpcdkdfdphaaGreatDoor.evFieldsDeep
