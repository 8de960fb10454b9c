/-
 Shared texts (Z36).
-/
import Derived.Test.YtcblajhfehadaaaGreatZ35
namespace Go.Proofs.YtcblajhfehadaaaGreat
open Go.RowKit Go.Joins Go.SX
set_option maxRecDepth 1000000
noncomputable def pg5 : List (Int × Nat) := [(0, 1), (0, 1), (1, 1), (0, 1), (2, 1), (0, 1), (2, 1), (1, 1), (1, 1), (1, 1), (1, 1), (2, 1), (0, 1), (2, 1), (0, 1), (1, 1), (1, 2), (1, 2), (1, 2), (3, 2)]
noncomputable def tg5 : List C := intsC [8, 1, 4, 0, 1, 8, 0, 1, 0, 1, 8, 7, 0, 0, 1, 8, 4, 7, 0, 1, 3, 4, 2, 0, 0, 1, 2, 4, 1, 0, 9, 7, 4, 0, 1, 9, 6, 7, 0, 1, 9, 5, 6, 2, 1, 9, 4, 5, 2, 1]
noncomputable def kg0_5 : Kp := ⟨[maA 0 10 10], mmC 0 0 pg5 tg5, 2, 20, .s (.c (.bool true)), [], xisF []⟩
theorem kg0_5_ok : kg0_5.ok bg 58 = true := by kernel_rfl
noncomputable def pg6 : List (Int × Nat) := [(0, 1), (0, 1), (1, 1), (0, 1), (2, 1), (0, 1), (2, 1), (1, 1), (1, 1), (1, 1), (1, 1), (2, 1), (0, 1), (2, 1), (0, 1), (1, 1), (3, 2), (1, 2), (1, 2), (3, 2)]
noncomputable def tg6 : List C := intsC [1, 4, 0, 0, 0, 7, 0, 4, 0, 0, 8, 3, 4, 0, 1, 8, 2, 3, 0, 1, 8, 1, 2, 1, 1, 8, 4, 1, 1, 1, 9, 7, 4, 0, 1, 9, 6, 7, 0, 1, 9, 5, 6, 2, 1, 9, 4, 5, 2, 1]
noncomputable def kg0_6 : Kp := ⟨[maA 0 10 10], mmC 0 0 pg6 tg6, 2, 20, .s (.c (.bool true)), [], xisF []⟩
theorem kg0_6_ok : kg0_6.ok bg 58 = true := by kernel_rfl
noncomputable def pg7 : List (Int × Nat) := [(0, 1), (0, 1), (1, 1), (0, 1), (2, 1), (0, 1), (2, 1), (1, 1), (1, 1), (1, 1), (1, 1), (2, 1), (0, 1), (2, 1), (0, 1), (1, 1), (1, 2), (1, 2), (3, 2), (1, 2), (1, 2), (3, 2)]
noncomputable def tg7 : List C := intsC [8, 1, 4, 0, 1, 8, 0, 1, 0, 1, 8, 7, 0, 0, 1, 8, 4, 7, 0, 1, 9, 3, 4, 0, 1, 9, 2, 3, 0, 1, 9, 1, 2, 1, 1, 9, 4, 1, 1, 1, 10, 7, 4, 0, 1, 10, 6, 7, 0, 1, 10, 5, 6, 2, 1, 10, 4, 5, 2, 1]
noncomputable def kg0_7 : Kp := ⟨[maA 0 11 12], mmC 0 0 pg7 tg7, 2, 22, .s (.c (.bool true)), [], xisF []⟩
theorem kg0_7_ok : kg0_7.ok bg 58 = true := by kernel_rfl
noncomputable def og0 : Orcs := withK 58 [kg0_0, kg0_1, kg0_2, kg0_3, kg0_4, kg0_5, kg0_6, kg0_7] bg
theorem og0_ok : OkP parCs20 og0 := withK_ok (orcG_ok parCs20_ok ctsCs20) ⟨kg0_0_ok, kg0_1_ok, kg0_2_ok, kg0_3_ok, kg0_4_ok, kg0_5_ok, kg0_6_ok, kg0_7_ok, trivial⟩
noncomputable def tg8 : List C := intsC [0, 1, 0, -1, 0, 4, 1, 0, 0, 7, -1, 1, 1, 2, 3, -1, 1, 4, 0, 3, 2, 3, 2, -1, 2, 4, 3, 2, 3, 4, 2, -1, 4, 5, 5, -1, 4, 6, 4, 5, 4, 7, 1, 4, 5, 6, 5, -1, 6, 7, 4, -1]
noncomputable def kg1_0 : Kp := ⟨[maA 0 8 6], mmC 0 0 pg0 tg0, 2, 16, .s (.c (.sl 284 0 13 4)), [(284, tg8)], xisF []⟩
theorem kg1_0_ok : kg1_0.ok og0 138 = true := by kernel_rfl
noncomputable def tg9 : List C := intsC [0, 1, 1, -1, 0, 7, -1, 2, 0, 8, 2, 1, 1, 2, 5, -1, 1, 4, 0, 5, 1, 8, 1, 0, 2, 3, 4, -1, 2, 4, 5, 4, 3, 4, 4, -1, 4, 5, 7, -1, 4, 6, 6, 7, 4, 7, 3, 6, 4, 8, 0, 3, 5, 6, 7, -1, 6, 7, 6, -1, 7, 8, 3, 2]
noncomputable def kg1_1 : Kp := ⟨[maA 0 9 8], mmC 0 0 pg1 tg1, 2, 18, .s (.c (.sl 391 0 16 4)), [(391, tg9)], xisF []⟩
theorem kg1_1_ok : kg1_1.ok og0 138 = true := by kernel_rfl
noncomputable def tg10 : List C := intsC [0, 1, 0, -1, 0, 4, 1, 0, 0, 7, -1, 1, 1, 2, 4, -1, 1, 4, 0, 5, 1, 8, 5, 4, 2, 3, 3, -1, 2, 8, 4, 3, 3, 4, 2, -1, 3, 8, 3, 2, 4, 5, 7, -1, 4, 6, 6, 7, 4, 7, 1, 6, 4, 8, 2, 5, 5, 6, 7, -1, 6, 7, 6, -1]
noncomputable def kg1_2 : Kp := ⟨[maA 0 9 8], mmC 0 0 pg2 tg2, 2, 18, .s (.c (.sl 403 0 16 4)), [(403, tg10)], xisF []⟩
theorem kg1_2_ok : kg1_2.ok og0 138 = true := by kernel_rfl
noncomputable def tg11 : List C := intsC [0, 1, 0, -1, 0, 4, 1, 0, 0, 7, -1, 1, 1, 2, 3, -1, 1, 4, 0, 3, 2, 3, 2, -1, 2, 4, 3, 2, 3, 4, 2, -1, 4, 5, 7, -1, 4, 7, 1, 4, 4, 8, 4, 7, 5, 6, 6, -1, 5, 8, 7, 6, 6, 7, 5, -1, 6, 8, 6, 5, 7, 8, 5, 4]
noncomputable def kg1_3 : Kp := ⟨[maA 0 9 8], mmC 0 0 pg3 tg3, 2, 18, .s (.c (.sl 383 0 16 4)), [(383, tg11)], xisF []⟩
theorem kg1_3_ok : kg1_3.ok og0 138 = true := by kernel_rfl
noncomputable def tg12 : List C := intsC [0, 1, 1, -1, 0, 7, -1, 2, 0, 8, 2, 1, 1, 2, 6, -1, 1, 4, 0, 7, 1, 8, 1, 0, 1, 9, 7, 6, 2, 3, 5, -1, 2, 9, 6, 5, 3, 4, 4, -1, 3, 9, 5, 4, 4, 5, 9, -1, 4, 6, 8, 9, 4, 7, 3, 8, 4, 8, 0, 3, 4, 9, 4, 7, 5, 6, 9, -1, 6, 7, 8, -1, 7, 8, 3, 2]
noncomputable def kg1_4 : Kp := ⟨[maA 0 10 10], mmC 0 0 pg4 tg4, 2, 20, .s (.c (.sl 516 0 19 4)), [(516, tg12)], xisF []⟩
theorem kg1_4_ok : kg1_4.ok og0 138 = true := by kernel_rfl
noncomputable def tg13 : List C := intsC [0, 1, 1, -1, 0, 7, -1, 2, 0, 8, 2, 1, 1, 2, 5, -1, 1, 4, 0, 5, 1, 8, 1, 0, 2, 3, 4, -1, 2, 4, 5, 4, 3, 4, 4, -1, 4, 5, 9, -1, 4, 7, 3, 6, 4, 8, 0, 3, 4, 9, 6, 9, 5, 6, 8, -1, 5, 9, 9, 8, 6, 7, 7, -1, 6, 9, 8, 7, 7, 8, 3, 2, 7, 9, 7, 6]
noncomputable def kg1_5 : Kp := ⟨[maA 0 10 10], mmC 0 0 pg5 tg5, 2, 20, .s (.c (.sl 493 0 19 4)), [(493, tg13)], xisF []⟩
theorem kg1_5_ok : kg1_5.ok og0 138 = true := by kernel_rfl
noncomputable def tg14 : List C := intsC [0, 1, 0, -1, 0, 4, 1, 0, 0, 7, -1, 1, 1, 2, 4, -1, 1, 4, 0, 5, 1, 8, 5, 4, 2, 3, 3, -1, 2, 8, 4, 3, 3, 4, 2, -1, 3, 8, 3, 2, 4, 5, 9, -1, 4, 7, 1, 6, 4, 8, 2, 5, 4, 9, 6, 9, 5, 6, 8, -1, 5, 9, 9, 8, 6, 7, 7, -1, 6, 9, 8, 7, 7, 9, 7, 6]
noncomputable def kg1_6 : Kp := ⟨[maA 0 10 10], mmC 0 0 pg6 tg6, 2, 20, .s (.c (.sl 505 0 19 4)), [(505, tg14)], xisF []⟩
theorem kg1_6_ok : kg1_6.ok og0 138 = true := by kernel_rfl
end Go.Proofs.YtcblajhfehadaaaGreat
