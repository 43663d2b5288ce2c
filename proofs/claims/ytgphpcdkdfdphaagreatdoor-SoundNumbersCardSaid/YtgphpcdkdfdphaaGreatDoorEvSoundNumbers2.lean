/- Whole numbers at the edges of 32 bits, decimals, texts, for each scalar: the law SoundNumbers returns true for all numbers. Conditions: none. -/
import Derived.Test.YtgphpcdkdfdphaaGreatDoorEvSoundNumbers0
namespace Go.Proofs.YtgphpcdkdfdphaaGreatDoor.evSoundNumbers
open Go.Ev
theorem c_0_1 : cases 0 1 = true := by kernel_rfl
theorem c_1_1 : cases 1 1 = true := by kernel_rfl
theorem c_2_1 : cases 2 1 = true := by kernel_rfl
theorem c_3_1 : cases 3 1 = true := by kernel_rfl
theorem c_4_1 : cases 4 1 = true := by kernel_rfl
theorem c_5_1 : cases 5 1 = true := by kernel_rfl
theorem c_6_1 : cases 6 1 = true := by kernel_rfl
theorem c_7_1 : cases 7 1 = true := by kernel_rfl
end Go.Proofs.YtgphpcdkdfdphaaGreatDoor.evSoundNumbers
