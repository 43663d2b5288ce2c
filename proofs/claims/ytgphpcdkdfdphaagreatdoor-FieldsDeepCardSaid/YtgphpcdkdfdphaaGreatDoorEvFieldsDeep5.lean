/- A field that there is not is found, so deep, behind so many: the law FieldsDeep returns true for all arguments. Conditions: none. -/
import Derived.Test.YtgphpcdkdfdphaaGreatDoorEvFieldsDeep0
namespace Go.Proofs.YtgphpcdkdfdphaaGreatDoor.evFieldsDeep
open Go.Ev
theorem c_0_2_false : cases 0 2 false = true := by kernel_rfl
theorem c_0_8_false : cases 0 8 false = true := by kernel_rfl
theorem c_1_5_false : cases 1 5 false = true := by kernel_rfl
theorem c_2_2_false : cases 2 2 false = true := by kernel_rfl
theorem c_2_8_false : cases 2 8 false = true := by kernel_rfl
theorem c_3_5_false : cases 3 5 false = true := by kernel_rfl
theorem c_4_2_false : cases 4 2 false = true := by kernel_rfl
theorem c_4_8_false : cases 4 8 false = true := by kernel_rfl
theorem c_5_5_false : cases 5 5 false = true := by kernel_rfl
theorem c_6_2_false : cases 6 2 false = true := by kernel_rfl
theorem c_6_8_false : cases 6 8 false = true := by kernel_rfl
theorem c_7_5_false : cases 7 5 false = true := by kernel_rfl
theorem c_8_2_false : cases 8 2 false = true := by kernel_rfl
theorem c_8_8_false : cases 8 8 false = true := by kernel_rfl
end Go.Proofs.YtgphpcdkdfdphaaGreatDoor.evFieldsDeep
