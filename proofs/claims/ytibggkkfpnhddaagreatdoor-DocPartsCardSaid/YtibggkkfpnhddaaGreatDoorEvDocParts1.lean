/- An operation with each of its parts, or without, and so many fragments: the law DocParts returns true for all arguments. Conditions: none. -/
import Derived.Test.YtibggkkfpnhddaaGreatDoorEvDocParts0
namespace Go.Proofs.YtibggkkfpnhddaaGreatDoor.evDocParts
open Go.Ev
theorem c_false_0 : cases false 0 = true := by kernel_rfl
theorem c_false_3 : cases false 3 = true := by kernel_rfl
theorem c_true_1 : cases true 1 = true := by kernel_rfl
theorem c_true_4 : cases true 4 = true := by kernel_rfl
end Go.Proofs.YtibggkkfpnhddaaGreatDoor.evDocParts
