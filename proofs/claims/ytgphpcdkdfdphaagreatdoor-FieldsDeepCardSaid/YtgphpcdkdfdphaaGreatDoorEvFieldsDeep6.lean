/- A field that there is not is found, so deep, behind so many: the law FieldsDeep returns true for all arguments. Conditions: none. -/
import Derived.Test.YtgphpcdkdfdphaaGreatDoorEvFieldsDeep0
namespace Go.Proofs.YtgphpcdkdfdphaaGreatDoor.evFieldsDeep
open Go.Ev
theorem c_0_2_true : cases 0 2 true = true := by kernel_rfl
theorem c_0_8_true : cases 0 8 true = true := by kernel_rfl
theorem c_1_5_true : cases 1 5 true = true := by kernel_rfl
theorem c_2_2_true : cases 2 2 true = true := by kernel_rfl
theorem c_2_8_true : cases 2 8 true = true := by kernel_rfl
theorem c_3_5_true : cases 3 5 true = true := by kernel_rfl
theorem c_4_2_true : cases 4 2 true = true := by kernel_rfl
theorem c_4_8_true : cases 4 8 true = true := by kernel_rfl
theorem c_5_5_true : cases 5 5 true = true := by kernel_rfl
theorem c_6_2_true : cases 6 2 true = true := by kernel_rfl
theorem c_6_8_true : cases 6 8 true = true := by kernel_rfl
theorem c_7_5_true : cases 7 5 true = true := by kernel_rfl
theorem c_8_2_true : cases 8 2 true = true := by kernel_rfl
theorem c_8_8_true : cases 8 8 true = true := by kernel_rfl
end Go.Proofs.YtgphpcdkdfdphaaGreatDoor.evFieldsDeep
