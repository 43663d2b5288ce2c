/- A definition that is none is refused at its place: the law SdlWrong returns true for all arguments. Conditions: none. -/
import Derived.Test.YtcfocdmjikbbgaaGreatDoorEvSdlWrong0
namespace Go.Proofs.YtcfocdmjikbbgaaGreatDoor.evSdlWrong
open Go.Ev
theorem c_0_0 : cases 0 0 = true := by kernel_rfl
theorem c_0_2 : cases 0 2 = true := by kernel_rfl
theorem c_0_4 : cases 0 4 = true := by kernel_rfl
theorem c_0_6 : cases 0 6 = true := by kernel_rfl
theorem c_0_8 : cases 0 8 = true := by kernel_rfl
theorem c_1_0 : cases 1 0 = true := by kernel_rfl
theorem c_1_2 : cases 1 2 = true := by kernel_rfl
theorem c_1_4 : cases 1 4 = true := by kernel_rfl
theorem c_1_6 : cases 1 6 = true := by kernel_rfl
theorem c_1_8 : cases 1 8 = true := by kernel_rfl
theorem c_2_0 : cases 2 0 = true := by kernel_rfl
theorem c_2_2 : cases 2 2 = true := by kernel_rfl
theorem c_2_4 : cases 2 4 = true := by kernel_rfl
theorem c_2_6 : cases 2 6 = true := by kernel_rfl
theorem c_2_8 : cases 2 8 = true := by kernel_rfl
theorem c_3_0 : cases 3 0 = true := by kernel_rfl
theorem c_3_2 : cases 3 2 = true := by kernel_rfl
theorem c_3_4 : cases 3 4 = true := by kernel_rfl
theorem c_3_6 : cases 3 6 = true := by kernel_rfl
theorem c_3_8 : cases 3 8 = true := by kernel_rfl
theorem c_4_0 : cases 4 0 = true := by kernel_rfl
theorem c_4_2 : cases 4 2 = true := by kernel_rfl
theorem c_4_4 : cases 4 4 = true := by kernel_rfl
theorem c_4_6 : cases 4 6 = true := by kernel_rfl
theorem c_4_8 : cases 4 8 = true := by kernel_rfl
theorem c_5_0 : cases 5 0 = true := by kernel_rfl
theorem c_5_2 : cases 5 2 = true := by kernel_rfl
theorem c_5_4 : cases 5 4 = true := by kernel_rfl
theorem c_5_6 : cases 5 6 = true := by kernel_rfl
theorem c_5_8 : cases 5 8 = true := by kernel_rfl
theorem c_6_0 : cases 6 0 = true := by kernel_rfl
theorem c_6_2 : cases 6 2 = true := by kernel_rfl
theorem c_6_4 : cases 6 4 = true := by kernel_rfl
theorem c_6_6 : cases 6 6 = true := by kernel_rfl
theorem c_6_8 : cases 6 8 = true := by kernel_rfl
theorem c_7_0 : cases 7 0 = true := by kernel_rfl
theorem c_7_2 : cases 7 2 = true := by kernel_rfl
theorem c_7_4 : cases 7 4 = true := by kernel_rfl
theorem c_7_6 : cases 7 6 = true := by kernel_rfl
theorem c_7_8 : cases 7 8 = true := by kernel_rfl
theorem c_8_0 : cases 8 0 = true := by kernel_rfl
theorem c_8_2 : cases 8 2 = true := by kernel_rfl
theorem c_8_4 : cases 8 4 = true := by kernel_rfl
theorem c_8_6 : cases 8 6 = true := by kernel_rfl
theorem c_8_8 : cases 8 8 = true := by kernel_rfl
theorem c_9_0 : cases 9 0 = true := by kernel_rfl
theorem c_9_2 : cases 9 2 = true := by kernel_rfl
theorem c_9_4 : cases 9 4 = true := by kernel_rfl
theorem c_9_6 : cases 9 6 = true := by kernel_rfl
theorem c_9_8 : cases 9 8 = true := by kernel_rfl
end Go.Proofs.YtcfocdmjikbbgaaGreatDoor.evSdlWrong
