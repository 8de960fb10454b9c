/-
 Shared texts (Z37).
-/
import Derived.Test.YtcblajhfehadaaaGreatZ36
namespace Go.Proofs.YtcblajhfehadaaaGreat
open Go.RowKit Go.Joins Go.SX
set_option maxRecDepth 1000000
noncomputable def tg15 : List C := intsC [0, 1, 1, -1, 0, 7, -1, 2, 0, 8, 2, 1, 1, 2, 6, -1, 1, 4, 0, 7, 1, 8, 1, 0, 1, 9, 7, 6, 2, 3, 5, -1, 2, 9, 6, 5, 3, 4, 4, -1, 3, 9, 5, 4, 4, 5, 11, -1, 4, 7, 3, 8, 4, 8, 0, 3, 4, 9, 4, 7, 4, 10, 8, 11, 5, 6, 10, -1, 5, 10, 11, 10, 6, 7, 9, -1, 6, 10, 10, 9, 7, 8, 3, 2, 7, 10, 9, 8]
noncomputable def kg1_7 : Kp := ⟨[maA 0 11 12], mmC 0 0 pg7 tg7, 2, 22, .s (.c (.sl 618 0 22 4)), [(618, tg15)], xisF []⟩
theorem kg1_7_ok : kg1_7.ok og0 138 = true := by kernel_rfl
noncomputable def og1 : Orcs := withK 138 [kg1_0, kg1_1, kg1_2, kg1_3, kg1_4, kg1_5, kg1_6, kg1_7] og0
theorem og1_ok : OkP parCs20 og1 := withK_ok og0_ok ⟨kg1_0_ok, kg1_1_ok, kg1_2_ok, kg1_3_ok, kg1_4_ok, kg1_5_ok, kg1_6_ok, kg1_7_ok, trivial⟩
noncomputable def kg2_0 : Kp := ⟨[maA 0 8 6, .s (.c (.bool false))], mmC 0 0 pg0 tg0, 2, 16, .s (.c (.sl 18 0 0 1)), [(18, [])], xisF []⟩
theorem kg2_0_ok : kg2_0.ok og1 59 = true := by kernel_rfl
noncomputable def kg2_1 : Kp := ⟨[maA 0 9 8, .s (.c (.bool false))], mmC 0 0 pg1 tg1, 2, 18, .s (.c (.sl 23 0 1 1)), [(23, [.int 8])], xisF []⟩
theorem kg2_1_ok : kg2_1.ok og1 59 = true := by kernel_rfl
noncomputable def kg2_2 : Kp := ⟨[maA 0 9 8, .s (.c (.bool false))], mmC 0 0 pg2 tg2, 2, 18, .s (.c (.sl 23 0 1 1)), [(23, [.int 8])], xisF []⟩
theorem kg2_2_ok : kg2_2.ok og1 59 = true := by kernel_rfl
noncomputable def kg2_3 : Kp := ⟨[maA 0 9 8, .s (.c (.bool false))], mmC 0 0 pg3 tg3, 2, 18, .s (.c (.sl 23 0 1 1)), [(23, [.int 8])], xisF []⟩
theorem kg2_3_ok : kg2_3.ok og1 59 = true := by kernel_rfl
noncomputable def kg2_4 : Kp := ⟨[maA 0 10 10, .s (.c (.bool false))], mmC 0 0 pg4 tg4, 2, 20, .s (.c (.sl 28 0 2 1)), [(28, [.int 8, .int 9])], xisF []⟩
theorem kg2_4_ok : kg2_4.ok og1 59 = true := by kernel_rfl
noncomputable def kg2_5 : Kp := ⟨[maA 0 10 10, .s (.c (.bool false))], mmC 0 0 pg5 tg5, 2, 20, .s (.c (.sl 28 0 2 1)), [(28, [.int 8, .int 9])], xisF []⟩
theorem kg2_5_ok : kg2_5.ok og1 59 = true := by kernel_rfl
noncomputable def kg2_6 : Kp := ⟨[maA 0 10 10, .s (.c (.bool false))], mmC 0 0 pg6 tg6, 2, 20, .s (.c (.sl 28 0 2 1)), [(28, [.int 8, .int 9])], xisF []⟩
theorem kg2_6_ok : kg2_6.ok og1 59 = true := by kernel_rfl
noncomputable def kg2_7 : Kp := ⟨[maA 0 11 12, .s (.c (.bool false))], mmC 0 0 pg7 tg7, 2, 22, .s (.c (.sl 33 0 3 1)), [(33, [.int 8, .int 9, .int 10])], xisF []⟩
theorem kg2_7_ok : kg2_7.ok og1 59 = true := by kernel_rfl
noncomputable def og2 : Orcs := withK 59 [kg2_0, kg2_1, kg2_2, kg2_3, kg2_4, kg2_5, kg2_6, kg2_7] og1
theorem og2_ok : OkP parCs20 og2 := withK_ok og1_ok ⟨kg2_0_ok, kg2_1_ok, kg2_2_ok, kg2_3_ok, kg2_4_ok, kg2_5_ok, kg2_6_ok, kg2_7_ok, trivial⟩
noncomputable def kg3_0 : Kp := ⟨[maA 0 8 6, .s (.c (.sl 2 0 0 1))], app (mmC 0 0 pg0 tg0) ([(2, [])]), 3, 16, .s (.agg ([.sl 325 0 8 6, .sl 442 0 6 5])), [(325, ptsC 16 pg0), (442, tg0)], xpF [(0, 16)] pg0⟩
theorem kg3_0_ok : kg3_0.ok og2 154 = true := by kernel_rfl
noncomputable def kg3_1 : Kp := ⟨[maA 0 8 6, .s (.c (.sl 2 0 1 1))], app (mmC 0 0 pg0 tg0) ([(2, [.int 1])]), 3, 16, .s (.agg ([.sl 266 0 9 6, .sl 466 0 8 5])), [(266, tpC [(16, 16), (35, 2)] pg1), (466, tg1)], xpF [(0, 16), (3, 2)] pg1⟩
theorem kg3_1_ok : kg3_1.ok og2 154 = true := by kernel_rfl
noncomputable def kg3_2 : Kp := ⟨[maA 0 8 6, .s (.c (.sl 2 0 1 1))], app (mmC 0 0 pg0 tg0) ([(2, [.int 6])]), 3, 16, .s (.agg ([.sl 266 0 9 6, .sl 466 0 8 5])), [(266, tpC [(16, 16), (35, 2)] pg2), (466, tg2)], xpF [(0, 16), (3, 2)] pg2⟩
theorem kg3_2_ok : kg3_2.ok og2 154 = true := by kernel_rfl
noncomputable def kg3_3 : Kp := ⟨[maA 0 8 6, .s (.c (.sl 2 0 1 1))], app (mmC 0 0 pg0 tg0) ([(2, [.int 9])]), 3, 16, .s (.agg ([.sl 266 0 9 6, .sl 466 0 8 5])), [(266, tpC [(16, 16), (35, 2)] pg3), (466, tg3)], xpF [(0, 16), (3, 2)] pg3⟩
theorem kg3_3_ok : kg3_3.ok og2 154 = true := by kernel_rfl
noncomputable def kg3_4 : Kp := ⟨[maA 0 8 6, .s (.c (.sl 2 0 2 1))], app (mmC 0 0 pg0 tg0) ([(2, [.int 1, .int 6])]), 3, 16, .s (.agg ([.sl 204 0 10 6, .sl 490 0 10 5])), [(204, tpC [(16, 16), (35, 2), (40, 2)] pg4), (490, tg4)], xpF [(0, 16), (3, 2), (3, 2)] pg4⟩
theorem kg3_4_ok : kg3_4.ok og2 154 = true := by kernel_rfl
noncomputable def kg3_5 : Kp := ⟨[maA 0 8 6, .s (.c (.sl 2 0 2 1))], app (mmC 0 0 pg0 tg0) ([(2, [.int 1, .int 9])]), 3, 16, .s (.agg ([.sl 204 0 10 6, .sl 490 0 10 5])), [(204, tpC [(16, 16), (35, 2), (40, 2)] pg5), (490, tg5)], xpF [(0, 16), (3, 2), (3, 2)] pg5⟩
theorem kg3_5_ok : kg3_5.ok og2 154 = true := by kernel_rfl
noncomputable def kg3_6 : Kp := ⟨[maA 0 8 6, .s (.c (.sl 2 0 2 1))], app (mmC 0 0 pg0 tg0) ([(2, [.int 6, .int 9])]), 3, 16, .s (.agg ([.sl 204 0 10 6, .sl 490 0 10 5])), [(204, tpC [(16, 16), (35, 2), (40, 2)] pg6), (490, tg6)], xpF [(0, 16), (3, 2), (3, 2)] pg6⟩
theorem kg3_6_ok : kg3_6.ok og2 154 = true := by kernel_rfl
noncomputable def kg3_7 : Kp := ⟨[maA 0 8 6, .s (.c (.sl 2 0 3 1))], app (mmC 0 0 pg0 tg0) ([(2, [.int 1, .int 6, .int 9])]), 3, 16, .s (.agg ([.sl 142 0 11 6, .sl 514 0 12 5])), [(142, tpC [(16, 16), (35, 2), (40, 2), (45, 2)] pg7), (514, tg7)], xpF [(0, 16), (3, 2), (3, 2), (3, 2)] pg7⟩
theorem kg3_7_ok : kg3_7.ok og2 154 = true := by kernel_rfl
noncomputable def og3 : Orcs := withK 154 [kg3_0, kg3_1, kg3_2, kg3_3, kg3_4, kg3_5, kg3_6, kg3_7] og2
theorem og3_ok : OkP parCs20 og3 := withK_ok og2_ok ⟨kg3_0_ok, kg3_1_ok, kg3_2_ok, kg3_3_ok, kg3_4_ok, kg3_5_ok, kg3_6_ok, kg3_7_ok, trivial⟩
noncomputable def kg4_0 : Kp := ⟨[maA 0 8 6, maA 2 8 6], app (mmC 0 0 pg0 tg0) (mmC 2 16 pg0 tg0), 4, 32, .tup [.c (.sl 6 0 0 1), .c (.sl 31 0 8 1), .c (.bool true)], [(6, []), (31, [.sl 8 0 1 1, .sl 11 0 1 1, .sl 14 0 1 1, .sl 17 0 1 1, .sl 20 0 1 1, .sl 23 0 1 1, .sl 26 0 1 1, .sl 29 0 1 1]), (8, [.int 0]), (11, [.int 1]), (14, [.int 2]), (17, [.int 3]), (20, [.int 4]), (23, [.int 5]), (26, [.int 6]), (29, [.int 7])], xisF [(81, cx 0 1)]⟩
theorem kg4_0_ok : kg4_0.ok og3 160 = true := by kernel_rfl
noncomputable def kg4_1 : Kp := ⟨[maA 0 8 6, maA 2 9 8], app (mmC 0 0 pg0 tg0) (mmC 2 16 pg1 tg1), 4, 34, .tup [.c (.sl 92 0 1 1), .c (.sl 95 0 9 1), .c (.bool true)], [(92, [.int 1]), (95, [.sl 8 0 1 1, .sl 11 0 1 1, .sl 14 0 1 1, .sl 17 0 1 1, .sl 20 0 1 1, .sl 23 0 1 1, .sl 26 0 1 1, .sl 29 0 1 1, .sl 93 0 2 1]), (8, [.int 0]), (11, [.int 1]), (14, [.int 2]), (17, [.int 3]), (20, [.int 4]), (23, [.int 5]), (26, [.int 6]), (29, [.int 7]), (93, [.int 0, .int 4])], xisF [(86, cx 0 1)]⟩
theorem kg4_1_ok : kg4_1.ok og3 160 = true := by kernel_rfl
noncomputable def kg4_2 : Kp := ⟨[maA 0 8 6, maA 2 9 8], app (mmC 0 0 pg0 tg0) (mmC 2 16 pg2 tg2), 4, 34, .tup [.c (.sl 237 0 1 1), .c (.sl 240 0 9 1), .c (.bool true)], [(237, [.int 6]), (240, [.sl 8 0 1 1, .sl 11 0 1 1, .sl 14 0 1 1, .sl 17 0 1 1, .sl 20 0 1 1, .sl 23 0 1 1, .sl 26 0 1 1, .sl 29 0 1 1, .sl 238 0 2 1]), (8, [.int 0]), (11, [.int 1]), (14, [.int 2]), (17, [.int 3]), (20, [.int 4]), (23, [.int 5]), (26, [.int 6]), (29, [.int 7]), (238, [.int 2, .int 4])], xisF [(86, cx 0 1)]⟩
theorem kg4_2_ok : kg4_2.ok og3 160 = true := by kernel_rfl
noncomputable def kg4_3 : Kp := ⟨[maA 0 8 6, maA 2 9 8], app (mmC 0 0 pg0 tg0) (mmC 2 16 pg3 tg3), 4, 34, .tup [.c (.sl 324 0 1 1), .c (.sl 327 0 9 1), .c (.bool true)], [(324, [.int 9]), (327, [.sl 8 0 1 1, .sl 11 0 1 1, .sl 14 0 1 1, .sl 17 0 1 1, .sl 20 0 1 1, .sl 23 0 1 1, .sl 26 0 1 1, .sl 29 0 1 1, .sl 325 0 2 1]), (8, [.int 0]), (11, [.int 1]), (14, [.int 2]), (17, [.int 3]), (20, [.int 4]), (23, [.int 5]), (26, [.int 6]), (29, [.int 7]), (325, [.int 4, .int 6])], xisF [(86, cx 0 1)]⟩
theorem kg4_3_ok : kg4_3.ok og3 160 = true := by kernel_rfl
noncomputable def kg4_4 : Kp := ⟨[maA 0 8 6, maA 2 10 10], app (mmC 0 0 pg0 tg0) (mmC 2 16 pg4 tg4), 4, 36, .tup [.c (.sl 260 0 2 1), .c (.sl 263 0 10 1), .c (.bool true)], [(260, [.int 1, .int 6]), (263, [.sl 8 0 1 1, .sl 11 0 1 1, .sl 14 0 1 1, .sl 17 0 1 1, .sl 20 0 1 1, .sl 23 0 1 1, .sl 26 0 1 1, .sl 29 0 1 1, .sl 96 0 2 1, .sl 261 0 2 1]), (8, [.int 0]), (11, [.int 1]), (14, [.int 2]), (17, [.int 3]), (20, [.int 4]), (23, [.int 5]), (26, [.int 6]), (29, [.int 7]), (96, [.int 0, .int 4]), (261, [.int 2, .int 4])], xisF [(91, cx 0 1)]⟩
theorem kg4_4_ok : kg4_4.ok og3 160 = true := by kernel_rfl
noncomputable def kg4_5 : Kp := ⟨[maA 0 8 6, maA 2 10 10], app (mmC 0 0 pg0 tg0) (mmC 2 16 pg5 tg5), 4, 36, .tup [.c (.sl 356 0 2 1), .c (.sl 359 0 10 1), .c (.bool true)], [(356, [.int 1, .int 9]), (359, [.sl 8 0 1 1, .sl 11 0 1 1, .sl 14 0 1 1, .sl 17 0 1 1, .sl 20 0 1 1, .sl 23 0 1 1, .sl 26 0 1 1, .sl 29 0 1 1, .sl 96 0 2 1, .sl 357 0 2 1]), (8, [.int 0]), (11, [.int 1]), (14, [.int 2]), (17, [.int 3]), (20, [.int 4]), (23, [.int 5]), (26, [.int 6]), (29, [.int 7]), (96, [.int 0, .int 4]), (357, [.int 4, .int 6])], xisF [(91, cx 0 1)]⟩
theorem kg4_5_ok : kg4_5.ok og3 160 = true := by kernel_rfl
noncomputable def kg4_6 : Kp := ⟨[maA 0 8 6, maA 2 10 10], app (mmC 0 0 pg0 tg0) (mmC 2 16 pg6 tg6), 4, 36, .tup [.c (.sl 356 0 2 1), .c (.sl 359 0 10 1), .c (.bool true)], [(356, [.int 6, .int 9]), (359, [.sl 8 0 1 1, .sl 11 0 1 1, .sl 14 0 1 1, .sl 17 0 1 1, .sl 20 0 1 1, .sl 23 0 1 1, .sl 26 0 1 1, .sl 29 0 1 1, .sl 256 0 2 1, .sl 357 0 2 1]), (8, [.int 0]), (11, [.int 1]), (14, [.int 2]), (17, [.int 3]), (20, [.int 4]), (23, [.int 5]), (26, [.int 6]), (29, [.int 7]), (256, [.int 2, .int 4]), (357, [.int 4, .int 6])], xisF [(91, cx 0 1)]⟩
theorem kg4_6_ok : kg4_6.ok og3 160 = true := by kernel_rfl
noncomputable def kg4_7 : Kp := ⟨[maA 0 8 6, maA 2 11 12], app (mmC 0 0 pg0 tg0) (mmC 2 16 pg7 tg7), 4, 38, .tup [.c (.sl 385 0 3 1), .c (.sl 388 0 11 1), .c (.bool true)], [(385, [.int 1, .int 6, .int 9]), (388, [.sl 8 0 1 1, .sl 11 0 1 1, .sl 14 0 1 1, .sl 17 0 1 1, .sl 20 0 1 1, .sl 23 0 1 1, .sl 26 0 1 1, .sl 29 0 1 1, .sl 99 0 2 1, .sl 276 0 2 1, .sl 386 0 2 1]), (8, [.int 0]), (11, [.int 1]), (14, [.int 2]), (17, [.int 3]), (20, [.int 4]), (23, [.int 5]), (26, [.int 6]), (29, [.int 7]), (99, [.int 0, .int 4]), (276, [.int 2, .int 4]), (386, [.int 4, .int 6])], xisF [(96, cx 0 1)]⟩
theorem kg4_7_ok : kg4_7.ok og3 160 = true := by kernel_rfl
noncomputable def og4 : Orcs := withK 160 [kg4_0, kg4_1, kg4_2, kg4_3, kg4_4, kg4_5, kg4_6, kg4_7] og3
theorem og4_ok : OkP parCs20 og4 := withK_ok og3_ok ⟨kg4_0_ok, kg4_1_ok, kg4_2_ok, kg4_3_ok, kg4_4_ok, kg4_5_ok, kg4_6_ok, kg4_7_ok, trivial⟩
end Go.Proofs.YtcblajhfehadaaaGreat
