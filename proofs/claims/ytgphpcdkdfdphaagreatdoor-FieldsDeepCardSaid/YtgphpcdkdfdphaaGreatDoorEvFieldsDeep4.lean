/- A field that there is not is found, so deep, behind so many: the law FieldsDeep returns true for all arguments. Conditions: none. -/
import Derived.Test.YtgphpcdkdfdphaaGreatDoorEvFieldsDeep0
namespace Go.Proofs.YtgphpcdkdfdphaaGreatDoor.evFieldsDeep
open Go.Ev
theorem c_0_1_true : cases 0 1 true = true := by kernel_rfl
theorem c_0_7_true : cases 0 7 true = true := by kernel_rfl
theorem c_1_4_true : cases 1 4 true = true := by kernel_rfl
theorem c_2_1_true : cases 2 1 true = true := by kernel_rfl
theorem c_2_7_true : cases 2 7 true = true := by kernel_rfl
theorem c_3_4_true : cases 3 4 true = true := by kernel_rfl
theorem c_4_1_true : cases 4 1 true = true := by kernel_rfl
theorem c_4_7_true : cases 4 7 true = true := by kernel_rfl
theorem c_5_4_true : cases 5 4 true = true := by kernel_rfl
theorem c_6_1_true : cases 6 1 true = true := by kernel_rfl
theorem c_6_7_true : cases 6 7 true = true := by kernel_rfl
theorem c_7_4_true : cases 7 4 true = true := by kernel_rfl
theorem c_8_1_true : cases 8 1 true = true := by kernel_rfl
theorem c_8_7_true : cases 8 7 true = true := by kernel_rfl
end Go.Proofs.YtgphpcdkdfdphaaGreatDoor.evFieldsDeep
