/- A field that there is not is found, so deep, behind so many: the law FieldsDeep returns true for all arguments. Conditions: none. -/
import Derived.Test.YtgphpcdkdfdphaaGreatDoorEvFieldsDeep0
namespace Go.Proofs.YtgphpcdkdfdphaaGreatDoor.evFieldsDeep
open Go.Ev
theorem c_0_4_true : cases 0 4 true = true := by kernel_rfl
theorem c_1_1_true : cases 1 1 true = true := by kernel_rfl
theorem c_1_7_true : cases 1 7 true = true := by kernel_rfl
theorem c_2_4_true : cases 2 4 true = true := by kernel_rfl
theorem c_3_1_true : cases 3 1 true = true := by kernel_rfl
theorem c_3_7_true : cases 3 7 true = true := by kernel_rfl
theorem c_4_4_true : cases 4 4 true = true := by kernel_rfl
theorem c_5_1_true : cases 5 1 true = true := by kernel_rfl
theorem c_5_7_true : cases 5 7 true = true := by kernel_rfl
theorem c_6_4_true : cases 6 4 true = true := by kernel_rfl
theorem c_7_1_true : cases 7 1 true = true := by kernel_rfl
theorem c_7_7_true : cases 7 7 true = true := by kernel_rfl
theorem c_8_4_true : cases 8 4 true = true := by kernel_rfl
end Go.Proofs.YtgphpcdkdfdphaaGreatDoor.evFieldsDeep
