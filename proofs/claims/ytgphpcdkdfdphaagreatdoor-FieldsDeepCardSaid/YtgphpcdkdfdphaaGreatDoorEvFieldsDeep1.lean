/- A field that there is not is found, so deep, behind so many: the law FieldsDeep returns true for all arguments. Conditions: none. -/
import Derived.Test.YtgphpcdkdfdphaaGreatDoorEvFieldsDeep0
namespace Go.Proofs.YtgphpcdkdfdphaaGreatDoor.evFieldsDeep
open Go.Ev
theorem c_0_0_false : cases 0 0 false = true := by kernel_rfl
theorem c_0_6_false : cases 0 6 false = true := by kernel_rfl
theorem c_1_3_false : cases 1 3 false = true := by kernel_rfl
theorem c_2_0_false : cases 2 0 false = true := by kernel_rfl
theorem c_2_6_false : cases 2 6 false = true := by kernel_rfl
theorem c_3_3_false : cases 3 3 false = true := by kernel_rfl
theorem c_4_0_false : cases 4 0 false = true := by kernel_rfl
theorem c_4_6_false : cases 4 6 false = true := by kernel_rfl
theorem c_5_3_false : cases 5 3 false = true := by kernel_rfl
theorem c_6_0_false : cases 6 0 false = true := by kernel_rfl
theorem c_6_6_false : cases 6 6 false = true := by kernel_rfl
theorem c_7_3_false : cases 7 3 false = true := by kernel_rfl
theorem c_8_0_false : cases 8 0 false = true := by kernel_rfl
theorem c_8_6_false : cases 8 6 false = true := by kernel_rfl
end Go.Proofs.YtgphpcdkdfdphaaGreatDoor.evFieldsDeep
