/- A field that there is not is found, so deep, behind so many: the law FieldsDeep returns true for all arguments. Conditions: none. -/
import Derived.Test.YtgphpcdkdfdphaaGreatDoorEvFieldsDeep0
namespace Go.Proofs.YtgphpcdkdfdphaaGreatDoor.evFieldsDeep
open Go.Ev
theorem c_0_3_true : cases 0 3 true = true := by kernel_rfl
theorem c_1_0_true : cases 1 0 true = true := by kernel_rfl
theorem c_1_6_true : cases 1 6 true = true := by kernel_rfl
theorem c_2_3_true : cases 2 3 true = true := by kernel_rfl
theorem c_3_0_true : cases 3 0 true = true := by kernel_rfl
theorem c_3_6_true : cases 3 6 true = true := by kernel_rfl
theorem c_4_3_true : cases 4 3 true = true := by kernel_rfl
theorem c_5_0_true : cases 5 0 true = true := by kernel_rfl
theorem c_5_6_true : cases 5 6 true = true := by kernel_rfl
theorem c_6_3_true : cases 6 3 true = true := by kernel_rfl
theorem c_7_0_true : cases 7 0 true = true := by kernel_rfl
theorem c_7_6_true : cases 7 6 true = true := by kernel_rfl
theorem c_8_3_true : cases 8 3 true = true := by kernel_rfl
end Go.Proofs.YtgphpcdkdfdphaaGreatDoor.evFieldsDeep
