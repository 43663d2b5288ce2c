/- An operation with each of its parts, or without, and so many fragments: the law DocParts returns true for all arguments. Conditions: none. -/
import Derived.Test.YtibggkkfpnhddaaGreatDoorEvDocParts0
namespace Go.Proofs.YtibggkkfpnhddaaGreatDoor.evDocParts
open Go.Ev
theorem c_false_2 : cases false 2 = true := by kernel_rfl
theorem c_true_0 : cases true 0 = true := by kernel_rfl
theorem c_true_3 : cases true 3 = true := by kernel_rfl
end Go.Proofs.YtibggkkfpnhddaaGreatDoor.evDocParts
