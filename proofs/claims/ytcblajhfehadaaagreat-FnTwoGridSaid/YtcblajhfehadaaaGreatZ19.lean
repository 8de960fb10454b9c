/-
 Shared texts (Z19).
-/
import Derived.Test.YtcblajhfehadaaaGreatZ18
namespace Go.Proofs.YtcblajhfehadaaaGreat
open Go.RowKit Go.Joins Go.SX
set_option maxRecDepth 1000000
noncomputable def ka3_10 : Kp := ⟨[maA 0 5 4, .s (.c (.sl 2 0 2 1))], app (mmC 0 0 pa0 ta0) ([(2, [.int 1, .int 5])]), 3, 10, .s (.agg ([.sl 149 0 7 6, .sl 297 0 6 5])), [(149, tpC [(10, 10), (23, 2), (28, 2)] pa10), (297, ta10)], xpF [(0, 10), (3, 2), (3, 2)] pa10⟩
theorem ka3_10_ok : ka3_10.ok oa2 154 = true := by kernel_rfl
noncomputable def ka3_11 : Kp := ⟨[maA 0 5 4, .s (.c (.sl 2 0 3 1))], app (mmC 0 0 pa0 ta0) ([(2, [.int 0, .int 3, .int 5])]), 3, 10, .s (.agg ([.sl 125 0 8 6, .sl 310 0 7 5])), [(125, tpC [(10, 10), (23, 2), (28, 2), (33, 2)] pa11), (310, ta11)], xpF [(0, 10), (3, 2), (3, 2), (3, 2)] pa11⟩
theorem ka3_11_ok : ka3_11.ok oa2 154 = true := by kernel_rfl
noncomputable def ka3_12 : Kp := ⟨[maA 0 5 4, .s (.c (.sl 2 0 3 1))], app (mmC 0 0 pa0 ta0) ([(2, [.int 0, .int 1, .int 3])]), 3, 10, .s (.agg ([.sl 125 0 8 6, .sl 310 0 7 5])), [(125, tpC [(10, 10), (23, 2), (28, 2), (33, 2)] pa12), (310, ta12)], xpF [(0, 10), (3, 2), (3, 2), (3, 2)] pa12⟩
theorem ka3_12_ok : ka3_12.ok oa2 154 = true := by kernel_rfl
noncomputable def ka3_13 : Kp := ⟨[maA 0 5 4, .s (.c (.sl 2 0 3 1))], app (mmC 0 0 pa0 ta0) ([(2, [.int 0, .int 1, .int 5])]), 3, 10, .s (.agg ([.sl 125 0 8 6, .sl 310 0 7 5])), [(125, tpC [(10, 10), (23, 2), (28, 2), (33, 2)] pa13), (310, ta13)], xpF [(0, 10), (3, 2), (3, 2), (3, 2)] pa13⟩
theorem ka3_13_ok : ka3_13.ok oa2 154 = true := by kernel_rfl
noncomputable def ka3_14 : Kp := ⟨[maA 0 5 4, .s (.c (.sl 2 0 3 1))], app (mmC 0 0 pa0 ta0) ([(2, [.int 1, .int 3, .int 5])]), 3, 10, .s (.agg ([.sl 125 0 8 6, .sl 310 0 7 5])), [(125, tpC [(10, 10), (23, 2), (28, 2), (33, 2)] pa14), (310, ta14)], xpF [(0, 10), (3, 2), (3, 2), (3, 2)] pa14⟩
theorem ka3_14_ok : ka3_14.ok oa2 154 = true := by kernel_rfl
noncomputable def oa3 : Orcs := withK 154 [ka3_0, ka3_1, ka3_2, ka3_3, ka3_4, ka3_5, ka3_6, ka3_7, ka3_8, ka3_9, ka3_10, ka3_11, ka3_12, ka3_13, ka3_14] oa2
theorem oa3_ok : OkP parCs00 oa3 := withK_ok oa2_ok ⟨ka3_0_ok, ka3_1_ok, ka3_2_ok, ka3_3_ok, ka3_4_ok, ka3_5_ok, ka3_6_ok, ka3_7_ok, ka3_8_ok, ka3_9_ok, ka3_10_ok, ka3_11_ok, ka3_12_ok, ka3_13_ok, ka3_14_ok, trivial⟩
noncomputable def ka4_0 : Kp := ⟨[maA 0 5 4, maA 2 5 4], app (mmC 0 0 pa0 ta0) (mmC 2 10 pa0 ta0), 4, 20, .tup [.c (.sl 6 0 0 1), .c (.sl 22 0 5 1), .c (.bool true)], [(6, []), (22, [.sl 8 0 1 1, .sl 11 0 1 1, .sl 14 0 1 1, .sl 17 0 1 1, .sl 20 0 1 1]), (8, [.int 0]), (11, [.int 1]), (14, [.int 2]), (17, [.int 3]), (20, [.int 4])], xisF [(50, cx 0 1)]⟩
theorem ka4_0_ok : ka4_0.ok oa3 160 = true := by kernel_rfl
noncomputable def ka4_1 : Kp := ⟨[maA 0 5 4, maA 2 6 5], app (mmC 0 0 pa0 ta0) (mmC 2 10 pa1 ta1), 4, 22, .tup [.c (.sl 45 0 1 1), .c (.sl 48 0 6 1), .c (.bool true)], [(45, [.int 0]), (48, [.sl 8 0 1 1, .sl 11 0 1 1, .sl 14 0 1 1, .sl 17 0 1 1, .sl 20 0 1 1, .sl 46 0 2 1]), (8, [.int 0]), (11, [.int 1]), (14, [.int 2]), (17, [.int 3]), (20, [.int 4]), (46, [.int 0, .int 1])], xisF [(55, cx 0 1)]⟩
theorem ka4_1_ok : ka4_1.ok oa3 160 = true := by kernel_rfl
noncomputable def ka4_2 : Kp := ⟨[maA 0 5 4, maA 2 6 5], app (mmC 0 0 pa0 ta0) (mmC 2 10 pa2 ta2), 4, 22, .tup [.c (.sl 105 0 1 1), .c (.sl 108 0 6 1), .c (.bool true)], [(105, [.int 3]), (108, [.sl 8 0 1 1, .sl 11 0 1 1, .sl 14 0 1 1, .sl 17 0 1 1, .sl 20 0 1 1, .sl 106 0 2 1]), (8, [.int 0]), (11, [.int 1]), (14, [.int 2]), (17, [.int 3]), (20, [.int 4]), (106, [.int 1, .int 2])], xisF [(55, cx 0 1)]⟩
theorem ka4_2_ok : ka4_2.ok oa3 160 = true := by kernel_rfl
noncomputable def ka4_3 : Kp := ⟨[maA 0 5 4, maA 2 6 5], app (mmC 0 0 pa0 ta0) (mmC 2 10 pa3 ta3), 4, 22, .tup [.c (.sl 145 0 1 1), .c (.sl 148 0 6 1), .c (.bool true)], [(145, [.int 5]), (148, [.sl 8 0 1 1, .sl 11 0 1 1, .sl 14 0 1 1, .sl 17 0 1 1, .sl 20 0 1 1, .sl 146 0 2 1]), (8, [.int 0]), (11, [.int 1]), (14, [.int 2]), (17, [.int 3]), (20, [.int 4]), (146, [.int 2, .int 3])], xisF [(55, cx 0 1)]⟩
theorem ka4_3_ok : ka4_3.ok oa3 160 = true := by kernel_rfl
noncomputable def ka4_4 : Kp := ⟨[maA 0 5 4, maA 2 6 5], app (mmC 0 0 pa0 ta0) (mmC 2 10 pa4 ta4), 4, 22, .tup [.c (.sl 65 0 1 1), .c (.sl 68 0 6 1), .c (.bool true)], [(65, [.int 1]), (68, [.sl 8 0 1 1, .sl 11 0 1 1, .sl 14 0 1 1, .sl 17 0 1 1, .sl 20 0 1 1, .sl 66 0 2 1]), (8, [.int 0]), (11, [.int 1]), (14, [.int 2]), (17, [.int 3]), (20, [.int 4]), (66, [.int 0, .int 3])], xisF [(55, cx 0 1)]⟩
theorem ka4_4_ok : ka4_4.ok oa3 160 = true := by kernel_rfl
noncomputable def ka4_5 : Kp := ⟨[maA 0 5 4, maA 2 7 6], app (mmC 0 0 pa0 ta0) (mmC 2 10 pa5 ta5), 4, 24, .tup [.c (.sl 119 0 2 1), .c (.sl 122 0 7 1), .c (.bool true)], [(119, [.int 0, .int 3]), (122, [.sl 8 0 1 1, .sl 11 0 1 1, .sl 14 0 1 1, .sl 17 0 1 1, .sl 20 0 1 1, .sl 46 0 2 1, .sl 120 0 2 1]), (8, [.int 0]), (11, [.int 1]), (14, [.int 2]), (17, [.int 3]), (20, [.int 4]), (46, [.int 0, .int 1]), (120, [.int 1, .int 2])], xisF [(60, cx 0 1)]⟩
theorem ka4_5_ok : ka4_5.ok oa3 160 = true := by kernel_rfl
noncomputable def ka4_6 : Kp := ⟨[maA 0 5 4, maA 2 7 6], app (mmC 0 0 pa0 ta0) (mmC 2 10 pa6 ta6), 4, 24, .tup [.c (.sl 165 0 2 1), .c (.sl 168 0 7 1), .c (.bool true)], [(165, [.int 0, .int 5]), (168, [.sl 8 0 1 1, .sl 11 0 1 1, .sl 14 0 1 1, .sl 17 0 1 1, .sl 20 0 1 1, .sl 46 0 2 1, .sl 166 0 2 1]), (8, [.int 0]), (11, [.int 1]), (14, [.int 2]), (17, [.int 3]), (20, [.int 4]), (46, [.int 0, .int 1]), (166, [.int 2, .int 3])], xisF [(60, cx 0 1)]⟩
theorem ka4_6_ok : ka4_6.ok oa3 160 = true := by kernel_rfl
noncomputable def ka4_7 : Kp := ⟨[maA 0 5 4, maA 2 7 6], app (mmC 0 0 pa0 ta0) (mmC 2 10 pa7 ta7), 4, 24, .tup [.c (.sl 73 0 2 1), .c (.sl 76 0 7 1), .c (.bool true)], [(73, [.int 0, .int 1]), (76, [.sl 8 0 1 1, .sl 11 0 1 1, .sl 14 0 1 1, .sl 17 0 1 1, .sl 20 0 1 1, .sl 46 0 2 1, .sl 74 0 2 1]), (8, [.int 0]), (11, [.int 1]), (14, [.int 2]), (17, [.int 3]), (20, [.int 4]), (46, [.int 0, .int 1]), (74, [.int 0, .int 3])], xisF [(60, cx 0 1)]⟩
theorem ka4_7_ok : ka4_7.ok oa3 160 = true := by kernel_rfl
noncomputable def ka4_8 : Kp := ⟨[maA 0 5 4, maA 2 7 6], app (mmC 0 0 pa0 ta0) (mmC 2 10 pa8 ta8), 4, 24, .tup [.c (.sl 165 0 2 1), .c (.sl 168 0 7 1), .c (.bool true)], [(165, [.int 3, .int 5]), (168, [.sl 8 0 1 1, .sl 11 0 1 1, .sl 14 0 1 1, .sl 17 0 1 1, .sl 20 0 1 1, .sl 115 0 2 1, .sl 166 0 2 1]), (8, [.int 0]), (11, [.int 1]), (14, [.int 2]), (17, [.int 3]), (20, [.int 4]), (115, [.int 1, .int 2]), (166, [.int 2, .int 3])], xisF [(60, cx 0 1)]⟩
theorem ka4_8_ok : ka4_8.ok oa3 160 = true := by kernel_rfl
noncomputable def ka4_9 : Kp := ⟨[maA 0 5 4, maA 2 7 6], app (mmC 0 0 pa0 ta0) (mmC 2 10 pa9 ta9), 4, 24, .tup [.c (.sl 119 0 2 1), .c (.sl 122 0 7 1), .c (.bool true)], [(119, [.int 1, .int 3]), (122, [.sl 8 0 1 1, .sl 11 0 1 1, .sl 14 0 1 1, .sl 17 0 1 1, .sl 20 0 1 1, .sl 69 0 2 1, .sl 120 0 2 1]), (8, [.int 0]), (11, [.int 1]), (14, [.int 2]), (17, [.int 3]), (20, [.int 4]), (69, [.int 0, .int 3]), (120, [.int 1, .int 2])], xisF [(60, cx 0 1)]⟩
theorem ka4_9_ok : ka4_9.ok oa3 160 = true := by kernel_rfl
noncomputable def ka4_10 : Kp := ⟨[maA 0 5 4, maA 2 7 6], app (mmC 0 0 pa0 ta0) (mmC 2 10 pa10 ta10), 4, 24, .tup [.c (.sl 165 0 2 1), .c (.sl 168 0 7 1), .c (.bool true)], [(165, [.int 1, .int 5]), (168, [.sl 8 0 1 1, .sl 11 0 1 1, .sl 14 0 1 1, .sl 17 0 1 1, .sl 20 0 1 1, .sl 69 0 2 1, .sl 166 0 2 1]), (8, [.int 0]), (11, [.int 1]), (14, [.int 2]), (17, [.int 3]), (20, [.int 4]), (69, [.int 0, .int 3]), (166, [.int 2, .int 3])], xisF [(60, cx 0 1)]⟩
theorem ka4_10_ok : ka4_10.ok oa3 160 = true := by kernel_rfl
noncomputable def ka4_11 : Kp := ⟨[maA 0 5 4, maA 2 8 7], app (mmC 0 0 pa0 ta0) (mmC 2 10 pa11 ta11), 4, 26, .tup [.c (.sl 182 0 3 1), .c (.sl 185 0 8 1), .c (.bool true)], [(182, [.int 0, .int 3, .int 5]), (185, [.sl 8 0 1 1, .sl 11 0 1 1, .sl 14 0 1 1, .sl 17 0 1 1, .sl 20 0 1 1, .sl 46 0 2 1, .sl 126 0 2 1, .sl 183 0 2 1]), (8, [.int 0]), (11, [.int 1]), (14, [.int 2]), (17, [.int 3]), (20, [.int 4]), (46, [.int 0, .int 1]), (126, [.int 1, .int 2]), (183, [.int 2, .int 3])], xisF [(65, cx 0 1)]⟩
theorem ka4_11_ok : ka4_11.ok oa3 160 = true := by kernel_rfl
noncomputable def ka4_12 : Kp := ⟨[maA 0 5 4, maA 2 8 7], app (mmC 0 0 pa0 ta0) (mmC 2 10 pa12 ta12), 4, 26, .tup [.c (.sl 130 0 3 1), .c (.sl 133 0 8 1), .c (.bool true)], [(130, [.int 0, .int 1, .int 3]), (133, [.sl 8 0 1 1, .sl 11 0 1 1, .sl 14 0 1 1, .sl 17 0 1 1, .sl 20 0 1 1, .sl 46 0 2 1, .sl 74 0 2 1, .sl 131 0 2 1]), (8, [.int 0]), (11, [.int 1]), (14, [.int 2]), (17, [.int 3]), (20, [.int 4]), (46, [.int 0, .int 1]), (74, [.int 0, .int 3]), (131, [.int 1, .int 2])], xisF [(65, cx 0 1)]⟩
theorem ka4_12_ok : ka4_12.ok oa3 160 = true := by kernel_rfl
noncomputable def ka4_13 : Kp := ⟨[maA 0 5 4, maA 2 8 7], app (mmC 0 0 pa0 ta0) (mmC 2 10 pa13 ta13), 4, 26, .tup [.c (.sl 182 0 3 1), .c (.sl 185 0 8 1), .c (.bool true)], [(182, [.int 0, .int 1, .int 5]), (185, [.sl 8 0 1 1, .sl 11 0 1 1, .sl 14 0 1 1, .sl 17 0 1 1, .sl 20 0 1 1, .sl 46 0 2 1, .sl 74 0 2 1, .sl 183 0 2 1]), (8, [.int 0]), (11, [.int 1]), (14, [.int 2]), (17, [.int 3]), (20, [.int 4]), (46, [.int 0, .int 1]), (74, [.int 0, .int 3]), (183, [.int 2, .int 3])], xisF [(65, cx 0 1)]⟩
theorem ka4_13_ok : ka4_13.ok oa3 160 = true := by kernel_rfl
noncomputable def ka4_14 : Kp := ⟨[maA 0 5 4, maA 2 8 7], app (mmC 0 0 pa0 ta0) (mmC 2 10 pa14 ta14), 4, 26, .tup [.c (.sl 182 0 3 1), .c (.sl 185 0 8 1), .c (.bool true)], [(182, [.int 1, .int 3, .int 5]), (185, [.sl 8 0 1 1, .sl 11 0 1 1, .sl 14 0 1 1, .sl 17 0 1 1, .sl 20 0 1 1, .sl 72 0 2 1, .sl 126 0 2 1, .sl 183 0 2 1]), (8, [.int 0]), (11, [.int 1]), (14, [.int 2]), (17, [.int 3]), (20, [.int 4]), (72, [.int 0, .int 3]), (126, [.int 1, .int 2]), (183, [.int 2, .int 3])], xisF [(65, cx 0 1)]⟩
theorem ka4_14_ok : ka4_14.ok oa3 160 = true := by kernel_rfl
noncomputable def oa4 : Orcs := withK 160 [ka4_0, ka4_1, ka4_2, ka4_3, ka4_4, ka4_5, ka4_6, ka4_7, ka4_8, ka4_9, ka4_10, ka4_11, ka4_12, ka4_13, ka4_14] oa3
theorem oa4_ok : OkP parCs00 oa4 := withK_ok oa3_ok ⟨ka4_0_ok, ka4_1_ok, ka4_2_ok, ka4_3_ok, ka4_4_ok, ka4_5_ok, ka4_6_ok, ka4_7_ok, ka4_8_ok, ka4_9_ok, ka4_10_ok, ka4_11_ok, ka4_12_ok, ka4_13_ok, ka4_14_ok, trivial⟩
end Go.Proofs.YtcblajhfehadaaaGreat
