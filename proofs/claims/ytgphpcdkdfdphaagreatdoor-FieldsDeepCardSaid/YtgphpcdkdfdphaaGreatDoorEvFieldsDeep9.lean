/- A field that there is not is found, so deep, behind so many: the law FieldsDeep returns true for all arguments. Conditions: none. -/
import Derived.Test.YtgphpcdkdfdphaaGreatDoorEvFieldsDeep0
namespace Go.Proofs.YtgphpcdkdfdphaaGreatDoor.evFieldsDeep
open Go.Ev
theorem c_0_4_false : cases 0 4 false = true := by kernel_rfl
theorem c_1_1_false : cases 1 1 false = true := by kernel_rfl
theorem c_1_7_false : cases 1 7 false = true := by kernel_rfl
theorem c_2_4_false : cases 2 4 false = true := by kernel_rfl
theorem c_3_1_false : cases 3 1 false = true := by kernel_rfl
theorem c_3_7_false : cases 3 7 false = true := by kernel_rfl
theorem c_4_4_false : cases 4 4 false = true := by kernel_rfl
theorem c_5_1_false : cases 5 1 false = true := by kernel_rfl
theorem c_5_7_false : cases 5 7 false = true := by kernel_rfl
theorem c_6_4_false : cases 6 4 false = true := by kernel_rfl
theorem c_7_1_false : cases 7 1 false = true := by kernel_rfl
theorem c_7_7_false : cases 7 7 false = true := by kernel_rfl
theorem c_8_4_false : cases 8 4 false = true := by kernel_rfl
end Go.Proofs.YtgphpcdkdfdphaaGreatDoor.evFieldsDeep
