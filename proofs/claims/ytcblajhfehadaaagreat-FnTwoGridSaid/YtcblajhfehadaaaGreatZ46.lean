/-
 Shared texts (Z46).
-/
import Derived.Test.YtcblajhfehadaaaGreatZ19
namespace Go.Proofs.YtcblajhfehadaaaGreat
open Go.RowKit Go.Joins Go.SX
set_option maxRecDepth 1000000
noncomputable def xa0 : List X := [⟨0, 2, [(1, 1)]⟩, ⟨0, 2, [(256, 1)]⟩, ⟨0, 2, [(65536, 1)]⟩]
noncomputable def xa1 : List X := [⟨0, 1, [(16, 1)]⟩, ⟨0, 1, [(4096, 1)]⟩, ⟨0, 1, [(1048576, 1)]⟩]
noncomputable def ka5_0 : Kp := ⟨[paA 5 4], app (mmC 0 0 pa0 ta0) ([(2, xsC 10 xa0), (3, xsC 13 xa1)]), 4, 16, .s (.agg ([.sl 170 0 1 2])), [(170, [.sl 166 0 1 1, .sl 168 0 1 3]), (166, [.int 0]), (168, xsC 653 [⟨0, 2, [(1, 3), (256, 1)]⟩])], xisF [(637, cx 0 1), (0, ⟨0, 2, [(1, 3), (256, 1)]⟩)]⟩
theorem ka5_0_ok : ka5_0.ok oa4 100 = true := by kernel_rfl
noncomputable def ka5_1 : Kp := ⟨[paA 6 5], app (mmC 0 0 pa1 ta1) ([(2, xsC 12 xa0), (3, xsC 15 xa1)]), 4, 18, .s (.agg ([.sl 206 0 1 2])), [(206, [.sl 202 0 1 1, .sl 204 0 1 3]), (202, [.int 0]), (204, xsC 814 [⟨0, 2, [(1, 3), (256, 1)]⟩])], xisF [(796, cx 0 1), (0, ⟨0, 2, [(1, 3), (256, 1)]⟩)]⟩
theorem ka5_1_ok : ka5_1.ok oa4 100 = true := by kernel_rfl
noncomputable def ka5_2 : Kp := ⟨[paA 6 5], app (mmC 0 0 pa2 ta2) ([(2, xsC 12 xa0), (3, xsC 15 xa1)]), 4, 18, .s (.agg ([.sl 206 0 1 2])), [(206, [.sl 202 0 1 1, .sl 204 0 1 3]), (202, [.int 0]), (204, xsC 814 [⟨0, 2, [(1, 3), (256, 1)]⟩])], xisF [(796, cx 0 1), (0, ⟨0, 2, [(1, 3), (256, 1)]⟩)]⟩
theorem ka5_2_ok : ka5_2.ok oa4 100 = true := by kernel_rfl
noncomputable def ka5_3 : Kp := ⟨[paA 6 5], app (mmC 0 0 pa3 ta3) ([(2, xsC 12 xa0), (3, xsC 15 xa1)]), 4, 18, .s (.agg ([.sl 206 0 1 2])), [(206, [.sl 202 0 1 1, .sl 204 0 1 3]), (202, [.int 0]), (204, xsC 814 [⟨0, 2, [(1, 3), (256, 1)]⟩])], xisF [(796, cx 0 1), (0, ⟨0, 2, [(1, 3), (256, 1)]⟩)]⟩
theorem ka5_3_ok : ka5_3.ok oa4 100 = true := by kernel_rfl
noncomputable def ka5_4 : Kp := ⟨[paA 6 5], app (mmC 0 0 pa4 ta4) ([(2, xsC 12 xa0), (3, xsC 15 xa1)]), 4, 18, .s (.agg ([.sl 206 0 1 2])), [(206, [.sl 202 0 1 1, .sl 204 0 1 3]), (202, [.int 0]), (204, xsC 814 [⟨0, 2, [(1, 3), (256, 1)]⟩])], xisF [(796, cx 0 1), (0, ⟨0, 2, [(1, 3), (256, 1)]⟩)]⟩
theorem ka5_4_ok : ka5_4.ok oa4 100 = true := by kernel_rfl
noncomputable def ka5_5 : Kp := ⟨[paA 7 6], app (mmC 0 0 pa5 ta5) ([(2, xsC 14 xa0), (3, xsC 17 xa1)]), 4, 20, .s (.agg ([.sl 242 0 1 2])), [(242, [.sl 238 0 1 1, .sl 240 0 1 3]), (238, [.int 0]), (240, xsC 975 [⟨0, 2, [(1, 3), (256, 1)]⟩])], xisF [(955, cx 0 1), (0, ⟨0, 2, [(1, 3), (256, 1)]⟩)]⟩
theorem ka5_5_ok : ka5_5.ok oa4 100 = true := by kernel_rfl
noncomputable def ka5_6 : Kp := ⟨[paA 7 6], app (mmC 0 0 pa6 ta6) ([(2, xsC 14 xa0), (3, xsC 17 xa1)]), 4, 20, .s (.agg ([.sl 242 0 1 2])), [(242, [.sl 238 0 1 1, .sl 240 0 1 3]), (238, [.int 0]), (240, xsC 975 [⟨0, 2, [(1, 3), (256, 1)]⟩])], xisF [(955, cx 0 1), (0, ⟨0, 2, [(1, 3), (256, 1)]⟩)]⟩
theorem ka5_6_ok : ka5_6.ok oa4 100 = true := by kernel_rfl
noncomputable def ka5_7 : Kp := ⟨[paA 7 6], app (mmC 0 0 pa7 ta7) ([(2, xsC 14 xa0), (3, xsC 17 xa1)]), 4, 20, .s (.agg ([.sl 242 0 1 2])), [(242, [.sl 238 0 1 1, .sl 240 0 1 3]), (238, [.int 0]), (240, xsC 975 [⟨0, 2, [(1, 3), (256, 1)]⟩])], xisF [(955, cx 0 1), (0, ⟨0, 2, [(1, 3), (256, 1)]⟩)]⟩
theorem ka5_7_ok : ka5_7.ok oa4 100 = true := by kernel_rfl
noncomputable def ka5_8 : Kp := ⟨[paA 7 6], app (mmC 0 0 pa8 ta8) ([(2, xsC 14 xa0), (3, xsC 17 xa1)]), 4, 20, .s (.agg ([.sl 242 0 1 2])), [(242, [.sl 238 0 1 1, .sl 240 0 1 3]), (238, [.int 0]), (240, xsC 975 [⟨0, 2, [(1, 3), (256, 1)]⟩])], xisF [(955, cx 0 1), (0, ⟨0, 2, [(1, 3), (256, 1)]⟩)]⟩
theorem ka5_8_ok : ka5_8.ok oa4 100 = true := by kernel_rfl
noncomputable def ka5_9 : Kp := ⟨[paA 7 6], app (mmC 0 0 pa9 ta9) ([(2, xsC 14 xa0), (3, xsC 17 xa1)]), 4, 20, .s (.agg ([.sl 242 0 1 2])), [(242, [.sl 238 0 1 1, .sl 240 0 1 3]), (238, [.int 0]), (240, xsC 975 [⟨0, 2, [(1, 3), (256, 1)]⟩])], xisF [(955, cx 0 1), (0, ⟨0, 2, [(1, 3), (256, 1)]⟩)]⟩
theorem ka5_9_ok : ka5_9.ok oa4 100 = true := by kernel_rfl
noncomputable def ka5_10 : Kp := ⟨[paA 7 6], app (mmC 0 0 pa10 ta10) ([(2, xsC 14 xa0), (3, xsC 17 xa1)]), 4, 20, .s (.agg ([.sl 242 0 1 2])), [(242, [.sl 238 0 1 1, .sl 240 0 1 3]), (238, [.int 0]), (240, xsC 975 [⟨0, 2, [(1, 3), (256, 1)]⟩])], xisF [(955, cx 0 1), (0, ⟨0, 2, [(1, 3), (256, 1)]⟩)]⟩
theorem ka5_10_ok : ka5_10.ok oa4 100 = true := by kernel_rfl
noncomputable def ka5_11 : Kp := ⟨[paA 8 7], app (mmC 0 0 pa11 ta11) ([(2, xsC 16 xa0), (3, xsC 19 xa1)]), 4, 22, .s (.agg ([.sl 278 0 1 2])), [(278, [.sl 274 0 1 1, .sl 276 0 1 3]), (274, [.int 0]), (276, xsC 1136 [⟨0, 2, [(1, 3), (256, 1)]⟩])], xisF [(1114, cx 0 1), (0, ⟨0, 2, [(1, 3), (256, 1)]⟩)]⟩
theorem ka5_11_ok : ka5_11.ok oa4 100 = true := by kernel_rfl
noncomputable def ka5_12 : Kp := ⟨[paA 8 7], app (mmC 0 0 pa12 ta12) ([(2, xsC 16 xa0), (3, xsC 19 xa1)]), 4, 22, .s (.agg ([.sl 278 0 1 2])), [(278, [.sl 274 0 1 1, .sl 276 0 1 3]), (274, [.int 0]), (276, xsC 1136 [⟨0, 2, [(1, 3), (256, 1)]⟩])], xisF [(1114, cx 0 1), (0, ⟨0, 2, [(1, 3), (256, 1)]⟩)]⟩
theorem ka5_12_ok : ka5_12.ok oa4 100 = true := by kernel_rfl
noncomputable def ka5_13 : Kp := ⟨[paA 8 7], app (mmC 0 0 pa13 ta13) ([(2, xsC 16 xa0), (3, xsC 19 xa1)]), 4, 22, .s (.agg ([.sl 278 0 1 2])), [(278, [.sl 274 0 1 1, .sl 276 0 1 3]), (274, [.int 0]), (276, xsC 1136 [⟨0, 2, [(1, 3), (256, 1)]⟩])], xisF [(1114, cx 0 1), (0, ⟨0, 2, [(1, 3), (256, 1)]⟩)]⟩
theorem ka5_13_ok : ka5_13.ok oa4 100 = true := by kernel_rfl
noncomputable def ka5_14 : Kp := ⟨[paA 8 7], app (mmC 0 0 pa14 ta14) ([(2, xsC 16 xa0), (3, xsC 19 xa1)]), 4, 22, .s (.agg ([.sl 278 0 1 2])), [(278, [.sl 274 0 1 1, .sl 276 0 1 3]), (274, [.int 0]), (276, xsC 1136 [⟨0, 2, [(1, 3), (256, 1)]⟩])], xisF [(1114, cx 0 1), (0, ⟨0, 2, [(1, 3), (256, 1)]⟩)]⟩
theorem ka5_14_ok : ka5_14.ok oa4 100 = true := by kernel_rfl
noncomputable def oa5 : Orcs := withK 100 [ka5_0, ka5_1, ka5_2, ka5_3, ka5_4, ka5_5, ka5_6, ka5_7, ka5_8, ka5_9, ka5_10, ka5_11, ka5_12, ka5_13, ka5_14] oa4
theorem oa5_ok : OkP parCs00 oa5 := withK_ok oa4_ok ⟨ka5_0_ok, ka5_1_ok, ka5_2_ok, ka5_3_ok, ka5_4_ok, ka5_5_ok, ka5_6_ok, ka5_7_ok, ka5_8_ok, ka5_9_ok, ka5_10_ok, ka5_11_ok, ka5_12_ok, ka5_13_ok, ka5_14_ok, trivial⟩
noncomputable def ka6_0 : Kp := ⟨[paA 5 4], app (mmC 0 0 pa0 ta0) ([(2, xsC 10 xa0), (3, xsC 13 xa1)]), 4, 16, .s (.c (.sl 78 0 1 3)), [(78, xsC 93 [⟨0, 3, [(16, 3), (4096, 1)]⟩])], xisF [(77, cx 0 1), (0, ⟨0, 3, [(16, 3), (4096, 1)]⟩)]⟩
theorem ka6_0_ok : ka6_0.ok oa5 102 = true := by kernel_rfl
noncomputable def ka6_1 : Kp := ⟨[paA 6 5], app (mmC 0 0 pa1 ta1) ([(2, xsC 12 xa0), (3, xsC 15 xa1)]), 4, 18, .s (.c (.sl 94 0 1 3)), [(94, xsC 114 [⟨0, 3, [(16, 3), (4096, 1)]⟩])], xisF [(96, cx 0 1), (0, ⟨0, 3, [(16, 3), (4096, 1)]⟩)]⟩
theorem ka6_1_ok : ka6_1.ok oa5 102 = true := by kernel_rfl
noncomputable def ka6_2 : Kp := ⟨[paA 6 5], app (mmC 0 0 pa2 ta2) ([(2, xsC 12 xa0), (3, xsC 15 xa1)]), 4, 18, .s (.c (.sl 94 0 1 3)), [(94, xsC 114 [⟨0, 3, [(16, 3), (4096, 1)]⟩])], xisF [(96, cx 0 1), (0, ⟨0, 3, [(16, 3), (4096, 1)]⟩)]⟩
theorem ka6_2_ok : ka6_2.ok oa5 102 = true := by kernel_rfl
noncomputable def ka6_3 : Kp := ⟨[paA 6 5], app (mmC 0 0 pa3 ta3) ([(2, xsC 12 xa0), (3, xsC 15 xa1)]), 4, 18, .s (.c (.sl 94 0 1 3)), [(94, xsC 114 [⟨0, 3, [(16, 3), (4096, 1)]⟩])], xisF [(96, cx 0 1), (0, ⟨0, 3, [(16, 3), (4096, 1)]⟩)]⟩
theorem ka6_3_ok : ka6_3.ok oa5 102 = true := by kernel_rfl
noncomputable def ka6_4 : Kp := ⟨[paA 6 5], app (mmC 0 0 pa4 ta4) ([(2, xsC 12 xa0), (3, xsC 15 xa1)]), 4, 18, .s (.c (.sl 94 0 1 3)), [(94, xsC 114 [⟨0, 3, [(16, 3), (4096, 1)]⟩])], xisF [(96, cx 0 1), (0, ⟨0, 3, [(16, 3), (4096, 1)]⟩)]⟩
theorem ka6_4_ok : ka6_4.ok oa5 102 = true := by kernel_rfl
noncomputable def ka6_5 : Kp := ⟨[paA 7 6], app (mmC 0 0 pa5 ta5) ([(2, xsC 14 xa0), (3, xsC 17 xa1)]), 4, 20, .s (.c (.sl 110 0 1 3)), [(110, xsC 135 [⟨0, 3, [(16, 3), (4096, 1)]⟩])], xisF [(115, cx 0 1), (0, ⟨0, 3, [(16, 3), (4096, 1)]⟩)]⟩
theorem ka6_5_ok : ka6_5.ok oa5 102 = true := by kernel_rfl
noncomputable def ka6_6 : Kp := ⟨[paA 7 6], app (mmC 0 0 pa6 ta6) ([(2, xsC 14 xa0), (3, xsC 17 xa1)]), 4, 20, .s (.c (.sl 110 0 1 3)), [(110, xsC 135 [⟨0, 3, [(16, 3), (4096, 1)]⟩])], xisF [(115, cx 0 1), (0, ⟨0, 3, [(16, 3), (4096, 1)]⟩)]⟩
theorem ka6_6_ok : ka6_6.ok oa5 102 = true := by kernel_rfl
noncomputable def ka6_7 : Kp := ⟨[paA 7 6], app (mmC 0 0 pa7 ta7) ([(2, xsC 14 xa0), (3, xsC 17 xa1)]), 4, 20, .s (.c (.sl 110 0 1 3)), [(110, xsC 135 [⟨0, 3, [(16, 3), (4096, 1)]⟩])], xisF [(115, cx 0 1), (0, ⟨0, 3, [(16, 3), (4096, 1)]⟩)]⟩
theorem ka6_7_ok : ka6_7.ok oa5 102 = true := by kernel_rfl
noncomputable def ka6_8 : Kp := ⟨[paA 7 6], app (mmC 0 0 pa8 ta8) ([(2, xsC 14 xa0), (3, xsC 17 xa1)]), 4, 20, .s (.c (.sl 110 0 1 3)), [(110, xsC 135 [⟨0, 3, [(16, 3), (4096, 1)]⟩])], xisF [(115, cx 0 1), (0, ⟨0, 3, [(16, 3), (4096, 1)]⟩)]⟩
theorem ka6_8_ok : ka6_8.ok oa5 102 = true := by kernel_rfl
noncomputable def ka6_9 : Kp := ⟨[paA 7 6], app (mmC 0 0 pa9 ta9) ([(2, xsC 14 xa0), (3, xsC 17 xa1)]), 4, 20, .s (.c (.sl 110 0 1 3)), [(110, xsC 135 [⟨0, 3, [(16, 3), (4096, 1)]⟩])], xisF [(115, cx 0 1), (0, ⟨0, 3, [(16, 3), (4096, 1)]⟩)]⟩
theorem ka6_9_ok : ka6_9.ok oa5 102 = true := by kernel_rfl
noncomputable def ka6_10 : Kp := ⟨[paA 7 6], app (mmC 0 0 pa10 ta10) ([(2, xsC 14 xa0), (3, xsC 17 xa1)]), 4, 20, .s (.c (.sl 110 0 1 3)), [(110, xsC 135 [⟨0, 3, [(16, 3), (4096, 1)]⟩])], xisF [(115, cx 0 1), (0, ⟨0, 3, [(16, 3), (4096, 1)]⟩)]⟩
theorem ka6_10_ok : ka6_10.ok oa5 102 = true := by kernel_rfl
noncomputable def ka6_11 : Kp := ⟨[paA 8 7], app (mmC 0 0 pa11 ta11) ([(2, xsC 16 xa0), (3, xsC 19 xa1)]), 4, 22, .s (.c (.sl 126 0 1 3)), [(126, xsC 156 [⟨0, 3, [(16, 3), (4096, 1)]⟩])], xisF [(134, cx 0 1), (0, ⟨0, 3, [(16, 3), (4096, 1)]⟩)]⟩
theorem ka6_11_ok : ka6_11.ok oa5 102 = true := by kernel_rfl
noncomputable def ka6_12 : Kp := ⟨[paA 8 7], app (mmC 0 0 pa12 ta12) ([(2, xsC 16 xa0), (3, xsC 19 xa1)]), 4, 22, .s (.c (.sl 126 0 1 3)), [(126, xsC 156 [⟨0, 3, [(16, 3), (4096, 1)]⟩])], xisF [(134, cx 0 1), (0, ⟨0, 3, [(16, 3), (4096, 1)]⟩)]⟩
theorem ka6_12_ok : ka6_12.ok oa5 102 = true := by kernel_rfl
noncomputable def ka6_13 : Kp := ⟨[paA 8 7], app (mmC 0 0 pa13 ta13) ([(2, xsC 16 xa0), (3, xsC 19 xa1)]), 4, 22, .s (.c (.sl 126 0 1 3)), [(126, xsC 156 [⟨0, 3, [(16, 3), (4096, 1)]⟩])], xisF [(134, cx 0 1), (0, ⟨0, 3, [(16, 3), (4096, 1)]⟩)]⟩
theorem ka6_13_ok : ka6_13.ok oa5 102 = true := by kernel_rfl
noncomputable def ka6_14 : Kp := ⟨[paA 8 7], app (mmC 0 0 pa14 ta14) ([(2, xsC 16 xa0), (3, xsC 19 xa1)]), 4, 22, .s (.c (.sl 126 0 1 3)), [(126, xsC 156 [⟨0, 3, [(16, 3), (4096, 1)]⟩])], xisF [(134, cx 0 1), (0, ⟨0, 3, [(16, 3), (4096, 1)]⟩)]⟩
theorem ka6_14_ok : ka6_14.ok oa5 102 = true := by kernel_rfl
noncomputable def oa6 : Orcs := withK 102 [ka6_0, ka6_1, ka6_2, ka6_3, ka6_4, ka6_5, ka6_6, ka6_7, ka6_8, ka6_9, ka6_10, ka6_11, ka6_12, ka6_13, ka6_14] oa5
theorem oa6_ok : OkP parCs00 oa6 := withK_ok oa5_ok ⟨ka6_0_ok, ka6_1_ok, ka6_2_ok, ka6_3_ok, ka6_4_ok, ka6_5_ok, ka6_6_ok, ka6_7_ok, ka6_8_ok, ka6_9_ok, ka6_10_ok, ka6_11_ok, ka6_12_ok, ka6_13_ok, ka6_14_ok, trivial⟩
end Go.Proofs.YtcblajhfehadaaaGreat
