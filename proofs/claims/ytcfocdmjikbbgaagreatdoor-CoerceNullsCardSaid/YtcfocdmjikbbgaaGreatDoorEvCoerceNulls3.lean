/- Null, and what is not given, are coerced as the page says: the law CoerceNulls returns true for all arguments. Conditions: none. -/
import Derived.Test.YtcfocdmjikbbgaaGreatDoorEvCoerceNulls0
namespace Go.Proofs.YtcfocdmjikbbgaaGreatDoor.evCoerceNulls
open Go.Ev
theorem c_false_false_false_2 : cases false false false 2 = true := by kernel_rfl
theorem c_false_false_true_2 : cases false false true 2 = true := by kernel_rfl
theorem c_false_true_false_2 : cases false true false 2 = true := by kernel_rfl
theorem c_false_true_true_2 : cases false true true 2 = true := by kernel_rfl
theorem c_true_false_false_2 : cases true false false 2 = true := by kernel_rfl
theorem c_true_false_true_2 : cases true false true 2 = true := by kernel_rfl
theorem c_true_true_false_2 : cases true true false 2 = true := by kernel_rfl
theorem c_true_true_true_2 : cases true true true 2 = true := by kernel_rfl
end Go.Proofs.YtcfocdmjikbbgaaGreatDoor.evCoerceNulls
