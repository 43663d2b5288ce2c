/- An operation with each of its parts, or without, and so many fragments: the law DocParts returns true for all arguments. Conditions: none. -/
import Derived.Test.YtibggkkfpnhddaaGreatDoorEvDocParts0
namespace Go.Proofs.YtibggkkfpnhddaaGreatDoor.evDocParts
open Go.Ev
theorem c_false_1 : cases false 1 = true := by kernel_rfl
theorem c_false_4 : cases false 4 = true := by kernel_rfl
theorem c_true_2 : cases true 2 = true := by kernel_rfl
end Go.Proofs.YtibggkkfpnhddaaGreatDoor.evDocParts
