/- As many types, fields, names as may be, and one more: the law SoundMany returns true for all numbers. Conditions: none. -/
import Derived.Test.YtcfocdmjikbbgaaGreatDoorEvSoundMany0
namespace Go.Proofs.YtcfocdmjikbbgaaGreatDoor.evSoundMany
open Go.Ev
theorem c_0_0 : cases 0 0 = true := by kernel_rfl
theorem c_1_0 : cases 1 0 = true := by kernel_rfl
theorem c_2_0 : cases 2 0 = true := by kernel_rfl
theorem c_3_0 : cases 3 0 = true := by kernel_rfl
end Go.Proofs.YtcfocdmjikbbgaaGreatDoor.evSoundMany
