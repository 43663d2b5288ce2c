/- Whole numbers at the edges of 32 bits, decimals, texts, for each scalar: the law SoundNumbers returns true for all numbers. Conditions: none. -/
import Derived.Test.YtgphpcdkdfdphaaGreatDoorEvSoundNumbers0
namespace Go.Proofs.YtgphpcdkdfdphaaGreatDoor.evSoundNumbers
open Go.Ev
theorem c_0_4 : cases 0 4 = true := by kernel_rfl
theorem c_1_4 : cases 1 4 = true := by kernel_rfl
theorem c_2_4 : cases 2 4 = true := by kernel_rfl
theorem c_3_4 : cases 3 4 = true := by kernel_rfl
theorem c_4_4 : cases 4 4 = true := by kernel_rfl
theorem c_5_4 : cases 5 4 = true := by kernel_rfl
theorem c_6_4 : cases 6 4 = true := by kernel_rfl
theorem c_7_4 : cases 7 4 = true := by kernel_rfl
end Go.Proofs.YtgphpcdkdfdphaaGreatDoor.evSoundNumbers
