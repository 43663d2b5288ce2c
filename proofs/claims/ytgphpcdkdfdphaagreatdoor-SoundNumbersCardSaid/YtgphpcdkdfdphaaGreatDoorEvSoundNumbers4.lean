/- Whole numbers at the edges of 32 bits, decimals, texts, for each scalar: the law SoundNumbers returns true for all numbers. Conditions: none. -/
import Derived.Test.YtgphpcdkdfdphaaGreatDoorEvSoundNumbers0
namespace Go.Proofs.YtgphpcdkdfdphaaGreatDoor.evSoundNumbers
open Go.Ev
theorem c_0_3 : cases 0 3 = true := by kernel_rfl
theorem c_1_3 : cases 1 3 = true := by kernel_rfl
theorem c_2_3 : cases 2 3 = true := by kernel_rfl
theorem c_3_3 : cases 3 3 = true := by kernel_rfl
theorem c_4_3 : cases 4 3 = true := by kernel_rfl
theorem c_5_3 : cases 5 3 = true := by kernel_rfl
theorem c_6_3 : cases 6 3 = true := by kernel_rfl
theorem c_7_3 : cases 7 3 = true := by kernel_rfl
end Go.Proofs.YtgphpcdkdfdphaaGreatDoor.evSoundNumbers
