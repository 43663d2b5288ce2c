/- A definition that is none is refused at its place: the law SdlWrong returns true for all arguments. Conditions: none. -/
import Derived.Test.YtcfocdmjikbbgaaGreatDoorEvSdlWrong0
namespace Go.Proofs.YtcfocdmjikbbgaaGreatDoor.evSdlWrong
open Go.Ev
theorem c_0_1 : cases 0 1 = true := by kernel_rfl
theorem c_0_3 : cases 0 3 = true := by kernel_rfl
theorem c_0_5 : cases 0 5 = true := by kernel_rfl
theorem c_0_7 : cases 0 7 = true := by kernel_rfl
theorem c_0_9 : cases 0 9 = true := by kernel_rfl
theorem c_1_1 : cases 1 1 = true := by kernel_rfl
theorem c_1_3 : cases 1 3 = true := by kernel_rfl
theorem c_1_5 : cases 1 5 = true := by kernel_rfl
theorem c_1_7 : cases 1 7 = true := by kernel_rfl
theorem c_1_9 : cases 1 9 = true := by kernel_rfl
theorem c_2_1 : cases 2 1 = true := by kernel_rfl
theorem c_2_3 : cases 2 3 = true := by kernel_rfl
theorem c_2_5 : cases 2 5 = true := by kernel_rfl
theorem c_2_7 : cases 2 7 = true := by kernel_rfl
theorem c_2_9 : cases 2 9 = true := by kernel_rfl
theorem c_3_1 : cases 3 1 = true := by kernel_rfl
theorem c_3_3 : cases 3 3 = true := by kernel_rfl
theorem c_3_5 : cases 3 5 = true := by kernel_rfl
theorem c_3_7 : cases 3 7 = true := by kernel_rfl
theorem c_3_9 : cases 3 9 = true := by kernel_rfl
theorem c_4_1 : cases 4 1 = true := by kernel_rfl
theorem c_4_3 : cases 4 3 = true := by kernel_rfl
theorem c_4_5 : cases 4 5 = true := by kernel_rfl
theorem c_4_7 : cases 4 7 = true := by kernel_rfl
theorem c_4_9 : cases 4 9 = true := by kernel_rfl
theorem c_5_1 : cases 5 1 = true := by kernel_rfl
theorem c_5_3 : cases 5 3 = true := by kernel_rfl
theorem c_5_5 : cases 5 5 = true := by kernel_rfl
theorem c_5_7 : cases 5 7 = true := by kernel_rfl
theorem c_5_9 : cases 5 9 = true := by kernel_rfl
theorem c_6_1 : cases 6 1 = true := by kernel_rfl
theorem c_6_3 : cases 6 3 = true := by kernel_rfl
theorem c_6_5 : cases 6 5 = true := by kernel_rfl
theorem c_6_7 : cases 6 7 = true := by kernel_rfl
theorem c_6_9 : cases 6 9 = true := by kernel_rfl
theorem c_7_1 : cases 7 1 = true := by kernel_rfl
theorem c_7_3 : cases 7 3 = true := by kernel_rfl
theorem c_7_5 : cases 7 5 = true := by kernel_rfl
theorem c_7_7 : cases 7 7 = true := by kernel_rfl
theorem c_7_9 : cases 7 9 = true := by kernel_rfl
theorem c_8_1 : cases 8 1 = true := by kernel_rfl
theorem c_8_3 : cases 8 3 = true := by kernel_rfl
theorem c_8_5 : cases 8 5 = true := by kernel_rfl
theorem c_8_7 : cases 8 7 = true := by kernel_rfl
theorem c_8_9 : cases 8 9 = true := by kernel_rfl
theorem c_9_1 : cases 9 1 = true := by kernel_rfl
theorem c_9_3 : cases 9 3 = true := by kernel_rfl
theorem c_9_5 : cases 9 5 = true := by kernel_rfl
theorem c_9_7 : cases 9 7 = true := by kernel_rfl
theorem c_9_9 : cases 9 9 = true := by kernel_rfl
end Go.Proofs.YtcfocdmjikbbgaaGreatDoor.evSdlWrong
