/- A field that there is not is found, so deep, behind so many: the law FieldsDeep returns true for all arguments. Conditions: none. -/
import Derived.Test.YtgphpcdkdfdphaaGreatDoorEvFieldsDeep0
namespace Go.Proofs.YtgphpcdkdfdphaaGreatDoor.evFieldsDeep
open Go.Ev
theorem c_0_0_true : cases 0 0 true = true := by kernel_rfl
theorem c_0_6_true : cases 0 6 true = true := by kernel_rfl
theorem c_1_3_true : cases 1 3 true = true := by kernel_rfl
theorem c_2_0_true : cases 2 0 true = true := by kernel_rfl
theorem c_2_6_true : cases 2 6 true = true := by kernel_rfl
theorem c_3_3_true : cases 3 3 true = true := by kernel_rfl
theorem c_4_0_true : cases 4 0 true = true := by kernel_rfl
theorem c_4_6_true : cases 4 6 true = true := by kernel_rfl
theorem c_5_3_true : cases 5 3 true = true := by kernel_rfl
theorem c_6_0_true : cases 6 0 true = true := by kernel_rfl
theorem c_6_6_true : cases 6 6 true = true := by kernel_rfl
theorem c_7_3_true : cases 7 3 true = true := by kernel_rfl
theorem c_8_0_true : cases 8 0 true = true := by kernel_rfl
theorem c_8_6_true : cases 8 6 true = true := by kernel_rfl
end Go.Proofs.YtgphpcdkdfdphaaGreatDoor.evFieldsDeep
