/- A field that there is not is found, so deep, behind so many: the law FieldsDeep returns true for all arguments. Conditions: none. -/
import Derived.Test.YtgphpcdkdfdphaaGreatDoorEvFieldsDeep0
namespace Go.Proofs.YtgphpcdkdfdphaaGreatDoor.evFieldsDeep
open Go.Ev
theorem c_0_3_false : cases 0 3 false = true := by kernel_rfl
theorem c_1_0_false : cases 1 0 false = true := by kernel_rfl
theorem c_1_6_false : cases 1 6 false = true := by kernel_rfl
theorem c_2_3_false : cases 2 3 false = true := by kernel_rfl
theorem c_3_0_false : cases 3 0 false = true := by kernel_rfl
theorem c_3_6_false : cases 3 6 false = true := by kernel_rfl
theorem c_4_3_false : cases 4 3 false = true := by kernel_rfl
theorem c_5_0_false : cases 5 0 false = true := by kernel_rfl
theorem c_5_6_false : cases 5 6 false = true := by kernel_rfl
theorem c_6_3_false : cases 6 3 false = true := by kernel_rfl
theorem c_7_0_false : cases 7 0 false = true := by kernel_rfl
theorem c_7_6_false : cases 7 6 false = true := by kernel_rfl
theorem c_8_3_false : cases 8 3 false = true := by kernel_rfl
end Go.Proofs.YtgphpcdkdfdphaaGreatDoor.evFieldsDeep
