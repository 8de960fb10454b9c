/-
 Shared texts (Z25).
-/
import Derived.Test.YtcblajhfehadaaaGreatZ24
namespace Go.Proofs.YtcblajhfehadaaaGreat
open Go.RowKit Go.Joins Go.SX
set_option maxRecDepth 1000000
noncomputable def kb3_10 : Kp := ⟨[maA 0 5 4, .s (.c (.sl 2 0 2 1))], app (mmC 0 0 pb0 tb0) ([(2, [.int 1, .int 5])]), 3, 10, .s (.agg ([.sl 149 0 7 6, .sl 297 0 6 5])), [(149, tpC [(10, 10), (23, 2), (28, 2)] pb10), (297, tb10)], xpF [(0, 10), (3, 2), (3, 2)] pb10⟩
theorem kb3_10_ok : kb3_10.ok ob2 154 = true := by kernel_rfl
noncomputable def kb3_11 : Kp := ⟨[maA 0 5 4, .s (.c (.sl 2 0 3 1))], app (mmC 0 0 pb0 tb0) ([(2, [.int 0, .int 3, .int 5])]), 3, 10, .s (.agg ([.sl 125 0 8 6, .sl 310 0 7 5])), [(125, tpC [(10, 10), (23, 2), (28, 2), (33, 2)] pb11), (310, tb11)], xpF [(0, 10), (3, 2), (3, 2), (3, 2)] pb11⟩
theorem kb3_11_ok : kb3_11.ok ob2 154 = true := by kernel_rfl
noncomputable def kb3_12 : Kp := ⟨[maA 0 5 4, .s (.c (.sl 2 0 3 1))], app (mmC 0 0 pb0 tb0) ([(2, [.int 0, .int 1, .int 3])]), 3, 10, .s (.agg ([.sl 125 0 8 6, .sl 310 0 7 5])), [(125, tpC [(10, 10), (23, 2), (28, 2), (33, 2)] pb12), (310, tb12)], xpF [(0, 10), (3, 2), (3, 2), (3, 2)] pb12⟩
theorem kb3_12_ok : kb3_12.ok ob2 154 = true := by kernel_rfl
noncomputable def kb3_13 : Kp := ⟨[maA 0 5 4, .s (.c (.sl 2 0 3 1))], app (mmC 0 0 pb0 tb0) ([(2, [.int 0, .int 1, .int 5])]), 3, 10, .s (.agg ([.sl 125 0 8 6, .sl 310 0 7 5])), [(125, tpC [(10, 10), (23, 2), (28, 2), (33, 2)] pb13), (310, tb13)], xpF [(0, 10), (3, 2), (3, 2), (3, 2)] pb13⟩
theorem kb3_13_ok : kb3_13.ok ob2 154 = true := by kernel_rfl
noncomputable def kb3_14 : Kp := ⟨[maA 0 5 4, .s (.c (.sl 2 0 3 1))], app (mmC 0 0 pb0 tb0) ([(2, [.int 1, .int 3, .int 5])]), 3, 10, .s (.agg ([.sl 125 0 8 6, .sl 310 0 7 5])), [(125, tpC [(10, 10), (23, 2), (28, 2), (33, 2)] pb14), (310, tb14)], xpF [(0, 10), (3, 2), (3, 2), (3, 2)] pb14⟩
theorem kb3_14_ok : kb3_14.ok ob2 154 = true := by kernel_rfl
noncomputable def ob3 : Orcs := withK 154 [kb3_0, kb3_1, kb3_2, kb3_3, kb3_4, kb3_5, kb3_6, kb3_7, kb3_8, kb3_9, kb3_10, kb3_11, kb3_12, kb3_13, kb3_14] ob2
theorem ob3_ok : OkP parCs01 ob3 := withK_ok ob2_ok ⟨kb3_0_ok, kb3_1_ok, kb3_2_ok, kb3_3_ok, kb3_4_ok, kb3_5_ok, kb3_6_ok, kb3_7_ok, kb3_8_ok, kb3_9_ok, kb3_10_ok, kb3_11_ok, kb3_12_ok, kb3_13_ok, kb3_14_ok, trivial⟩
noncomputable def kb4_0 : Kp := ⟨[maA 0 5 4, maA 2 5 4], app (mmC 0 0 pb0 tb0) (mmC 2 10 pb0 tb0), 4, 20, .tup [.c (.sl 6 0 0 1), .c (.sl 22 0 5 1), .c (.bool true)], [(6, []), (22, [.sl 8 0 1 1, .sl 11 0 1 1, .sl 14 0 1 1, .sl 17 0 1 1, .sl 20 0 1 1]), (8, [.int 0]), (11, [.int 1]), (14, [.int 2]), (17, [.int 3]), (20, [.int 4])], xisF [(50, cx 0 1)]⟩
theorem kb4_0_ok : kb4_0.ok ob3 160 = true := by kernel_rfl
noncomputable def kb4_1 : Kp := ⟨[maA 0 5 4, maA 2 6 5], app (mmC 0 0 pb0 tb0) (mmC 2 10 pb1 tb1), 4, 22, .tup [.c (.sl 45 0 1 1), .c (.sl 48 0 6 1), .c (.bool true)], [(45, [.int 0]), (48, [.sl 8 0 1 1, .sl 11 0 1 1, .sl 14 0 1 1, .sl 17 0 1 1, .sl 20 0 1 1, .sl 46 0 2 1]), (8, [.int 0]), (11, [.int 1]), (14, [.int 2]), (17, [.int 3]), (20, [.int 4]), (46, [.int 0, .int 1])], xisF [(55, cx 0 1)]⟩
theorem kb4_1_ok : kb4_1.ok ob3 160 = true := by kernel_rfl
noncomputable def kb4_2 : Kp := ⟨[maA 0 5 4, maA 2 6 5], app (mmC 0 0 pb0 tb0) (mmC 2 10 pb2 tb2), 4, 22, .tup [.c (.sl 105 0 1 1), .c (.sl 108 0 6 1), .c (.bool true)], [(105, [.int 3]), (108, [.sl 8 0 1 1, .sl 11 0 1 1, .sl 14 0 1 1, .sl 17 0 1 1, .sl 20 0 1 1, .sl 106 0 2 1]), (8, [.int 0]), (11, [.int 1]), (14, [.int 2]), (17, [.int 3]), (20, [.int 4]), (106, [.int 1, .int 2])], xisF [(55, cx 0 1)]⟩
theorem kb4_2_ok : kb4_2.ok ob3 160 = true := by kernel_rfl
noncomputable def kb4_3 : Kp := ⟨[maA 0 5 4, maA 2 6 5], app (mmC 0 0 pb0 tb0) (mmC 2 10 pb3 tb3), 4, 22, .tup [.c (.sl 145 0 1 1), .c (.sl 148 0 6 1), .c (.bool true)], [(145, [.int 5]), (148, [.sl 8 0 1 1, .sl 11 0 1 1, .sl 14 0 1 1, .sl 17 0 1 1, .sl 20 0 1 1, .sl 146 0 2 1]), (8, [.int 0]), (11, [.int 1]), (14, [.int 2]), (17, [.int 3]), (20, [.int 4]), (146, [.int 2, .int 3])], xisF [(55, cx 0 1)]⟩
theorem kb4_3_ok : kb4_3.ok ob3 160 = true := by kernel_rfl
noncomputable def kb4_4 : Kp := ⟨[maA 0 5 4, maA 2 6 5], app (mmC 0 0 pb0 tb0) (mmC 2 10 pb4 tb4), 4, 22, .tup [.c (.sl 65 0 1 1), .c (.sl 68 0 6 1), .c (.bool true)], [(65, [.int 1]), (68, [.sl 8 0 1 1, .sl 11 0 1 1, .sl 14 0 1 1, .sl 17 0 1 1, .sl 20 0 1 1, .sl 66 0 2 1]), (8, [.int 0]), (11, [.int 1]), (14, [.int 2]), (17, [.int 3]), (20, [.int 4]), (66, [.int 0, .int 3])], xisF [(55, cx 0 1)]⟩
theorem kb4_4_ok : kb4_4.ok ob3 160 = true := by kernel_rfl
noncomputable def kb4_5 : Kp := ⟨[maA 0 5 4, maA 2 7 6], app (mmC 0 0 pb0 tb0) (mmC 2 10 pb5 tb5), 4, 24, .tup [.c (.sl 119 0 2 1), .c (.sl 122 0 7 1), .c (.bool true)], [(119, [.int 0, .int 3]), (122, [.sl 8 0 1 1, .sl 11 0 1 1, .sl 14 0 1 1, .sl 17 0 1 1, .sl 20 0 1 1, .sl 46 0 2 1, .sl 120 0 2 1]), (8, [.int 0]), (11, [.int 1]), (14, [.int 2]), (17, [.int 3]), (20, [.int 4]), (46, [.int 0, .int 1]), (120, [.int 1, .int 2])], xisF [(60, cx 0 1)]⟩
theorem kb4_5_ok : kb4_5.ok ob3 160 = true := by kernel_rfl
noncomputable def kb4_6 : Kp := ⟨[maA 0 5 4, maA 2 7 6], app (mmC 0 0 pb0 tb0) (mmC 2 10 pb6 tb6), 4, 24, .tup [.c (.sl 165 0 2 1), .c (.sl 168 0 7 1), .c (.bool true)], [(165, [.int 0, .int 5]), (168, [.sl 8 0 1 1, .sl 11 0 1 1, .sl 14 0 1 1, .sl 17 0 1 1, .sl 20 0 1 1, .sl 46 0 2 1, .sl 166 0 2 1]), (8, [.int 0]), (11, [.int 1]), (14, [.int 2]), (17, [.int 3]), (20, [.int 4]), (46, [.int 0, .int 1]), (166, [.int 2, .int 3])], xisF [(60, cx 0 1)]⟩
theorem kb4_6_ok : kb4_6.ok ob3 160 = true := by kernel_rfl
noncomputable def kb4_7 : Kp := ⟨[maA 0 5 4, maA 2 7 6], app (mmC 0 0 pb0 tb0) (mmC 2 10 pb7 tb7), 4, 24, .tup [.c (.sl 73 0 2 1), .c (.sl 76 0 7 1), .c (.bool true)], [(73, [.int 0, .int 1]), (76, [.sl 8 0 1 1, .sl 11 0 1 1, .sl 14 0 1 1, .sl 17 0 1 1, .sl 20 0 1 1, .sl 46 0 2 1, .sl 74 0 2 1]), (8, [.int 0]), (11, [.int 1]), (14, [.int 2]), (17, [.int 3]), (20, [.int 4]), (46, [.int 0, .int 1]), (74, [.int 0, .int 3])], xisF [(60, cx 0 1)]⟩
theorem kb4_7_ok : kb4_7.ok ob3 160 = true := by kernel_rfl
noncomputable def kb4_8 : Kp := ⟨[maA 0 5 4, maA 2 7 6], app (mmC 0 0 pb0 tb0) (mmC 2 10 pb8 tb8), 4, 24, .tup [.c (.sl 165 0 2 1), .c (.sl 168 0 7 1), .c (.bool true)], [(165, [.int 3, .int 5]), (168, [.sl 8 0 1 1, .sl 11 0 1 1, .sl 14 0 1 1, .sl 17 0 1 1, .sl 20 0 1 1, .sl 115 0 2 1, .sl 166 0 2 1]), (8, [.int 0]), (11, [.int 1]), (14, [.int 2]), (17, [.int 3]), (20, [.int 4]), (115, [.int 1, .int 2]), (166, [.int 2, .int 3])], xisF [(60, cx 0 1)]⟩
theorem kb4_8_ok : kb4_8.ok ob3 160 = true := by kernel_rfl
noncomputable def kb4_9 : Kp := ⟨[maA 0 5 4, maA 2 7 6], app (mmC 0 0 pb0 tb0) (mmC 2 10 pb9 tb9), 4, 24, .tup [.c (.sl 119 0 2 1), .c (.sl 122 0 7 1), .c (.bool true)], [(119, [.int 1, .int 3]), (122, [.sl 8 0 1 1, .sl 11 0 1 1, .sl 14 0 1 1, .sl 17 0 1 1, .sl 20 0 1 1, .sl 69 0 2 1, .sl 120 0 2 1]), (8, [.int 0]), (11, [.int 1]), (14, [.int 2]), (17, [.int 3]), (20, [.int 4]), (69, [.int 0, .int 3]), (120, [.int 1, .int 2])], xisF [(60, cx 0 1)]⟩
theorem kb4_9_ok : kb4_9.ok ob3 160 = true := by kernel_rfl
noncomputable def kb4_10 : Kp := ⟨[maA 0 5 4, maA 2 7 6], app (mmC 0 0 pb0 tb0) (mmC 2 10 pb10 tb10), 4, 24, .tup [.c (.sl 165 0 2 1), .c (.sl 168 0 7 1), .c (.bool true)], [(165, [.int 1, .int 5]), (168, [.sl 8 0 1 1, .sl 11 0 1 1, .sl 14 0 1 1, .sl 17 0 1 1, .sl 20 0 1 1, .sl 69 0 2 1, .sl 166 0 2 1]), (8, [.int 0]), (11, [.int 1]), (14, [.int 2]), (17, [.int 3]), (20, [.int 4]), (69, [.int 0, .int 3]), (166, [.int 2, .int 3])], xisF [(60, cx 0 1)]⟩
theorem kb4_10_ok : kb4_10.ok ob3 160 = true := by kernel_rfl
noncomputable def kb4_11 : Kp := ⟨[maA 0 5 4, maA 2 8 7], app (mmC 0 0 pb0 tb0) (mmC 2 10 pb11 tb11), 4, 26, .tup [.c (.sl 182 0 3 1), .c (.sl 185 0 8 1), .c (.bool true)], [(182, [.int 0, .int 3, .int 5]), (185, [.sl 8 0 1 1, .sl 11 0 1 1, .sl 14 0 1 1, .sl 17 0 1 1, .sl 20 0 1 1, .sl 46 0 2 1, .sl 126 0 2 1, .sl 183 0 2 1]), (8, [.int 0]), (11, [.int 1]), (14, [.int 2]), (17, [.int 3]), (20, [.int 4]), (46, [.int 0, .int 1]), (126, [.int 1, .int 2]), (183, [.int 2, .int 3])], xisF [(65, cx 0 1)]⟩
theorem kb4_11_ok : kb4_11.ok ob3 160 = true := by kernel_rfl
noncomputable def kb4_12 : Kp := ⟨[maA 0 5 4, maA 2 8 7], app (mmC 0 0 pb0 tb0) (mmC 2 10 pb12 tb12), 4, 26, .tup [.c (.sl 130 0 3 1), .c (.sl 133 0 8 1), .c (.bool true)], [(130, [.int 0, .int 1, .int 3]), (133, [.sl 8 0 1 1, .sl 11 0 1 1, .sl 14 0 1 1, .sl 17 0 1 1, .sl 20 0 1 1, .sl 46 0 2 1, .sl 74 0 2 1, .sl 131 0 2 1]), (8, [.int 0]), (11, [.int 1]), (14, [.int 2]), (17, [.int 3]), (20, [.int 4]), (46, [.int 0, .int 1]), (74, [.int 0, .int 3]), (131, [.int 1, .int 2])], xisF [(65, cx 0 1)]⟩
theorem kb4_12_ok : kb4_12.ok ob3 160 = true := by kernel_rfl
noncomputable def kb4_13 : Kp := ⟨[maA 0 5 4, maA 2 8 7], app (mmC 0 0 pb0 tb0) (mmC 2 10 pb13 tb13), 4, 26, .tup [.c (.sl 182 0 3 1), .c (.sl 185 0 8 1), .c (.bool true)], [(182, [.int 0, .int 1, .int 5]), (185, [.sl 8 0 1 1, .sl 11 0 1 1, .sl 14 0 1 1, .sl 17 0 1 1, .sl 20 0 1 1, .sl 46 0 2 1, .sl 74 0 2 1, .sl 183 0 2 1]), (8, [.int 0]), (11, [.int 1]), (14, [.int 2]), (17, [.int 3]), (20, [.int 4]), (46, [.int 0, .int 1]), (74, [.int 0, .int 3]), (183, [.int 2, .int 3])], xisF [(65, cx 0 1)]⟩
theorem kb4_13_ok : kb4_13.ok ob3 160 = true := by kernel_rfl
noncomputable def kb4_14 : Kp := ⟨[maA 0 5 4, maA 2 8 7], app (mmC 0 0 pb0 tb0) (mmC 2 10 pb14 tb14), 4, 26, .tup [.c (.sl 182 0 3 1), .c (.sl 185 0 8 1), .c (.bool true)], [(182, [.int 1, .int 3, .int 5]), (185, [.sl 8 0 1 1, .sl 11 0 1 1, .sl 14 0 1 1, .sl 17 0 1 1, .sl 20 0 1 1, .sl 72 0 2 1, .sl 126 0 2 1, .sl 183 0 2 1]), (8, [.int 0]), (11, [.int 1]), (14, [.int 2]), (17, [.int 3]), (20, [.int 4]), (72, [.int 0, .int 3]), (126, [.int 1, .int 2]), (183, [.int 2, .int 3])], xisF [(65, cx 0 1)]⟩
theorem kb4_14_ok : kb4_14.ok ob3 160 = true := by kernel_rfl
noncomputable def ob4 : Orcs := withK 160 [kb4_0, kb4_1, kb4_2, kb4_3, kb4_4, kb4_5, kb4_6, kb4_7, kb4_8, kb4_9, kb4_10, kb4_11, kb4_12, kb4_13, kb4_14] ob3
theorem ob4_ok : OkP parCs01 ob4 := withK_ok ob3_ok ⟨kb4_0_ok, kb4_1_ok, kb4_2_ok, kb4_3_ok, kb4_4_ok, kb4_5_ok, kb4_6_ok, kb4_7_ok, kb4_8_ok, kb4_9_ok, kb4_10_ok, kb4_11_ok, kb4_12_ok, kb4_13_ok, kb4_14_ok, trivial⟩
end Go.Proofs.YtcblajhfehadaaaGreat
