/- Null, and what is not given, are coerced as the page says: the law CoerceNulls returns true for all arguments. Conditions: none. -/
import Derived.Test.YtcfocdmjikbbgaaGreatDoorEvCoerceNulls0
namespace Go.Proofs.YtcfocdmjikbbgaaGreatDoor.evCoerceNulls
open Go.Ev
theorem c_false_false_false_1 : cases false false false 1 = true := by kernel_rfl
theorem c_false_false_true_1 : cases false false true 1 = true := by kernel_rfl
theorem c_false_true_false_1 : cases false true false 1 = true := by kernel_rfl
theorem c_false_true_true_1 : cases false true true 1 = true := by kernel_rfl
theorem c_true_false_false_1 : cases true false false 1 = true := by kernel_rfl
theorem c_true_false_true_1 : cases true false true 1 = true := by kernel_rfl
theorem c_true_true_false_1 : cases true true false 1 = true := by kernel_rfl
theorem c_true_true_true_1 : cases true true true 1 = true := by kernel_rfl
end Go.Proofs.YtcfocdmjikbbgaaGreatDoor.evCoerceNulls
