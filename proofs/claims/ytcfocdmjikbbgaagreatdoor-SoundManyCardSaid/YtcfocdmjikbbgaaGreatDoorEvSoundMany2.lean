/- As many types, fields, names as may be, and one more: the law SoundMany returns true for all numbers. Conditions: none. -/
import Derived.Test.YtcfocdmjikbbgaaGreatDoorEvSoundMany0
namespace Go.Proofs.YtcfocdmjikbbgaaGreatDoor.evSoundMany
open Go.Ev
theorem c_0_1 : cases 0 1 = true := by kernel_rfl
theorem c_1_1 : cases 1 1 = true := by kernel_rfl
theorem c_2_1 : cases 2 1 = true := by kernel_rfl
theorem c_3_1 : cases 3 1 = true := by kernel_rfl
end Go.Proofs.YtcfocdmjikbbgaaGreatDoor.evSoundMany
