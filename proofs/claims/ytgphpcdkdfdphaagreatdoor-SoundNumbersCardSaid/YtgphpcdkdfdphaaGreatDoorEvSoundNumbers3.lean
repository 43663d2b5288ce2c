/- Whole numbers at the edges of 32 bits, decimals, texts, for each scalar: the law SoundNumbers returns true for all numbers. Conditions: none. -/
import Derived.Test.YtgphpcdkdfdphaaGreatDoorEvSoundNumbers0
namespace Go.Proofs.YtgphpcdkdfdphaaGreatDoor.evSoundNumbers
open Go.Ev
theorem c_0_2 : cases 0 2 = true := by kernel_rfl
theorem c_1_2 : cases 1 2 = true := by kernel_rfl
theorem c_2_2 : cases 2 2 = true := by kernel_rfl
theorem c_3_2 : cases 3 2 = true := by kernel_rfl
theorem c_4_2 : cases 4 2 = true := by kernel_rfl
theorem c_5_2 : cases 5 2 = true := by kernel_rfl
theorem c_6_2 : cases 6 2 = true := by kernel_rfl
theorem c_7_2 : cases 7 2 = true := by kernel_rfl
end Go.Proofs.YtgphpcdkdfdphaaGreatDoor.evSoundNumbers
