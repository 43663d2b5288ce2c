/- Variables that may stand where they do, and that may not: the law VarsKnown returns true for every number. Conditions: none. -/
import Derived.Test.YtgphpcdkdfdphaaGreatDoorEvVarsKnown0
namespace Go.Proofs.YtgphpcdkdfdphaaGreatDoor.evVarsKnown
open Go.Ev
theorem c_1 : cases 1 = true := by kernel_rfl
theorem c_3 : cases 3 = true := by kernel_rfl
theorem c_5 : cases 5 = true := by kernel_rfl
theorem c_7 : cases 7 = true := by kernel_rfl
theorem c_9 : cases 9 = true := by kernel_rfl
theorem c_11 : cases 11 = true := by kernel_rfl
theorem c_13 : cases 13 = true := by kernel_rfl
theorem c_15 : cases 15 = true := by kernel_rfl
end Go.Proofs.YtgphpcdkdfdphaaGreatDoor.evVarsKnown
