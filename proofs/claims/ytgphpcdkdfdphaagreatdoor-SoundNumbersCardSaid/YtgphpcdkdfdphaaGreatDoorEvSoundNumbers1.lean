/- Whole numbers at the edges of 32 bits, decimals, texts, for each scalar: the law SoundNumbers returns true for all numbers. Conditions: none. -/
import Derived.Test.YtgphpcdkdfdphaaGreatDoorEvSoundNumbers0
namespace Go.Proofs.YtgphpcdkdfdphaaGreatDoor.evSoundNumbers
open Go.Ev
theorem c_0_0 : cases 0 0 = true := by kernel_rfl
theorem c_1_0 : cases 1 0 = true := by kernel_rfl
theorem c_2_0 : cases 2 0 = true := by kernel_rfl
theorem c_3_0 : cases 3 0 = true := by kernel_rfl
theorem c_4_0 : cases 4 0 = true := by kernel_rfl
theorem c_5_0 : cases 5 0 = true := by kernel_rfl
theorem c_6_0 : cases 6 0 = true := by kernel_rfl
theorem c_7_0 : cases 7 0 = true := by kernel_rfl
end Go.Proofs.YtgphpcdkdfdphaaGreatDoor.evSoundNumbers
