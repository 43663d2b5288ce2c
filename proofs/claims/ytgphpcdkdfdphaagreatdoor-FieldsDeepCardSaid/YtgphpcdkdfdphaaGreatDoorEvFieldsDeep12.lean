/- A field that there is not is found, so deep, behind so many: the law FieldsDeep returns true for all arguments. Conditions: none. -/
import Derived.Test.YtgphpcdkdfdphaaGreatDoorEvFieldsDeep0
namespace Go.Proofs.YtgphpcdkdfdphaaGreatDoor.evFieldsDeep
open Go.Ev
theorem c_0_5_true : cases 0 5 true = true := by kernel_rfl
theorem c_1_2_true : cases 1 2 true = true := by kernel_rfl
theorem c_1_8_true : cases 1 8 true = true := by kernel_rfl
theorem c_2_5_true : cases 2 5 true = true := by kernel_rfl
theorem c_3_2_true : cases 3 2 true = true := by kernel_rfl
theorem c_3_8_true : cases 3 8 true = true := by kernel_rfl
theorem c_4_5_true : cases 4 5 true = true := by kernel_rfl
theorem c_5_2_true : cases 5 2 true = true := by kernel_rfl
theorem c_5_8_true : cases 5 8 true = true := by kernel_rfl
theorem c_6_5_true : cases 6 5 true = true := by kernel_rfl
theorem c_7_2_true : cases 7 2 true = true := by kernel_rfl
theorem c_7_8_true : cases 7 8 true = true := by kernel_rfl
theorem c_8_5_true : cases 8 5 true = true := by kernel_rfl
end Go.Proofs.YtgphpcdkdfdphaaGreatDoor.evFieldsDeep
