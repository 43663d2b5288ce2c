/- A field that there is not is found, so deep, behind so many: the law FieldsDeep returns true for all arguments. Conditions: none. -/
import Derived.Test.YtgphpcdkdfdphaaGreatDoorEvFieldsDeep0
namespace Go.Proofs.YtgphpcdkdfdphaaGreatDoor.evFieldsDeep
open Go.Ev
theorem c_0_5_false : cases 0 5 false = true := by kernel_rfl
theorem c_1_2_false : cases 1 2 false = true := by kernel_rfl
theorem c_1_8_false : cases 1 8 false = true := by kernel_rfl
theorem c_2_5_false : cases 2 5 false = true := by kernel_rfl
theorem c_3_2_false : cases 3 2 false = true := by kernel_rfl
theorem c_3_8_false : cases 3 8 false = true := by kernel_rfl
theorem c_4_5_false : cases 4 5 false = true := by kernel_rfl
theorem c_5_2_false : cases 5 2 false = true := by kernel_rfl
theorem c_5_8_false : cases 5 8 false = true := by kernel_rfl
theorem c_6_5_false : cases 6 5 false = true := by kernel_rfl
theorem c_7_2_false : cases 7 2 false = true := by kernel_rfl
theorem c_7_8_false : cases 7 8 false = true := by kernel_rfl
theorem c_8_5_false : cases 8 5 false = true := by kernel_rfl
end Go.Proofs.YtgphpcdkdfdphaaGreatDoor.evFieldsDeep
