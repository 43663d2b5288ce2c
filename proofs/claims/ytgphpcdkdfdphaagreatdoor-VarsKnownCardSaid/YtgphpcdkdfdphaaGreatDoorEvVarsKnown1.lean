/- Variables that may stand where they do, and that may not: the law VarsKnown returns true for every number. Conditions: none. -/
import Derived.Test.YtgphpcdkdfdphaaGreatDoorEvVarsKnown0
namespace Go.Proofs.YtgphpcdkdfdphaaGreatDoor.evVarsKnown
open Go.Ev
theorem c_0 : cases 0 = true := by kernel_rfl
theorem c_2 : cases 2 = true := by kernel_rfl
theorem c_4 : cases 4 = true := by kernel_rfl
theorem c_6 : cases 6 = true := by kernel_rfl
theorem c_8 : cases 8 = true := by kernel_rfl
theorem c_10 : cases 10 = true := by kernel_rfl
theorem c_12 : cases 12 = true := by kernel_rfl
theorem c_14 : cases 14 = true := by kernel_rfl
end Go.Proofs.YtgphpcdkdfdphaaGreatDoor.evVarsKnown
