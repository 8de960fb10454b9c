/-
 Shared texts (Z50).
-/
import Derived.Test.YtcblajhfehadaaaGreatZ25
namespace Go.Proofs.YtcblajhfehadaaaGreat
open Go.RowKit Go.Joins Go.SX
set_option maxRecDepth 1000000
noncomputable def xb0 : List X := [⟨0, 2, [(1, 1)]⟩, ⟨0, 2, [(256, 1)]⟩, ⟨0, 2, [(65536, 1)]⟩]
noncomputable def xb1 : List X := [⟨0, 1, [(16, 1)]⟩, ⟨0, 1, [(4096, 1)]⟩, ⟨0, 1, [(1048576, 1)]⟩]
noncomputable def kb5_0 : Kp := ⟨[paA 5 4], app (mmC 0 0 pb0 tb0) ([(2, xsC 10 xb0), (3, xsC 13 xb1)]), 4, 16, .s (.agg ([.sl 170 0 1 2])), [(170, [.sl 166 0 1 1, .sl 168 0 1 3]), (166, [.int 0]), (168, xsC 653 [⟨0, 1, [(1, 1), (256, 1)]⟩])], xisF [(637, cx 0 1), (0, ⟨0, 1, [(1, 1), (256, 1)]⟩)]⟩
theorem kb5_0_ok : kb5_0.ok ob4 100 = true := by kernel_rfl
noncomputable def kb5_1 : Kp := ⟨[paA 6 5], app (mmC 0 0 pb1 tb1) ([(2, xsC 12 xb0), (3, xsC 15 xb1)]), 4, 18, .s (.agg ([.sl 206 0 1 2])), [(206, [.sl 202 0 1 1, .sl 204 0 1 3]), (202, [.int 0]), (204, xsC 814 [⟨0, 1, [(1, 1), (256, 1)]⟩])], xisF [(796, cx 0 1), (0, ⟨0, 1, [(1, 1), (256, 1)]⟩)]⟩
theorem kb5_1_ok : kb5_1.ok ob4 100 = true := by kernel_rfl
noncomputable def kb5_2 : Kp := ⟨[paA 6 5], app (mmC 0 0 pb2 tb2) ([(2, xsC 12 xb0), (3, xsC 15 xb1)]), 4, 18, .s (.agg ([.sl 206 0 1 2])), [(206, [.sl 202 0 1 1, .sl 204 0 1 3]), (202, [.int 0]), (204, xsC 814 [⟨0, 1, [(1, 1), (256, 1)]⟩])], xisF [(796, cx 0 1), (0, ⟨0, 1, [(1, 1), (256, 1)]⟩)]⟩
theorem kb5_2_ok : kb5_2.ok ob4 100 = true := by kernel_rfl
noncomputable def kb5_3 : Kp := ⟨[paA 6 5], app (mmC 0 0 pb3 tb3) ([(2, xsC 12 xb0), (3, xsC 15 xb1)]), 4, 18, .s (.agg ([.sl 206 0 1 2])), [(206, [.sl 202 0 1 1, .sl 204 0 1 3]), (202, [.int 0]), (204, xsC 814 [⟨0, 1, [(1, 1), (256, 1)]⟩])], xisF [(796, cx 0 1), (0, ⟨0, 1, [(1, 1), (256, 1)]⟩)]⟩
theorem kb5_3_ok : kb5_3.ok ob4 100 = true := by kernel_rfl
noncomputable def kb5_4 : Kp := ⟨[paA 6 5], app (mmC 0 0 pb4 tb4) ([(2, xsC 12 xb0), (3, xsC 15 xb1)]), 4, 18, .s (.agg ([.sl 206 0 1 2])), [(206, [.sl 202 0 1 1, .sl 204 0 1 3]), (202, [.int 0]), (204, xsC 814 [⟨0, 1, [(1, 1), (256, 1)]⟩])], xisF [(796, cx 0 1), (0, ⟨0, 1, [(1, 1), (256, 1)]⟩)]⟩
theorem kb5_4_ok : kb5_4.ok ob4 100 = true := by kernel_rfl
noncomputable def kb5_5 : Kp := ⟨[paA 7 6], app (mmC 0 0 pb5 tb5) ([(2, xsC 14 xb0), (3, xsC 17 xb1)]), 4, 20, .s (.agg ([.sl 242 0 1 2])), [(242, [.sl 238 0 1 1, .sl 240 0 1 3]), (238, [.int 0]), (240, xsC 975 [⟨0, 1, [(1, 1), (256, 1)]⟩])], xisF [(955, cx 0 1), (0, ⟨0, 1, [(1, 1), (256, 1)]⟩)]⟩
theorem kb5_5_ok : kb5_5.ok ob4 100 = true := by kernel_rfl
noncomputable def kb5_6 : Kp := ⟨[paA 7 6], app (mmC 0 0 pb6 tb6) ([(2, xsC 14 xb0), (3, xsC 17 xb1)]), 4, 20, .s (.agg ([.sl 242 0 1 2])), [(242, [.sl 238 0 1 1, .sl 240 0 1 3]), (238, [.int 0]), (240, xsC 975 [⟨0, 1, [(1, 1), (256, 1)]⟩])], xisF [(955, cx 0 1), (0, ⟨0, 1, [(1, 1), (256, 1)]⟩)]⟩
theorem kb5_6_ok : kb5_6.ok ob4 100 = true := by kernel_rfl
noncomputable def kb5_7 : Kp := ⟨[paA 7 6], app (mmC 0 0 pb7 tb7) ([(2, xsC 14 xb0), (3, xsC 17 xb1)]), 4, 20, .s (.agg ([.sl 242 0 1 2])), [(242, [.sl 238 0 1 1, .sl 240 0 1 3]), (238, [.int 0]), (240, xsC 975 [⟨0, 1, [(1, 1), (256, 1)]⟩])], xisF [(955, cx 0 1), (0, ⟨0, 1, [(1, 1), (256, 1)]⟩)]⟩
theorem kb5_7_ok : kb5_7.ok ob4 100 = true := by kernel_rfl
noncomputable def kb5_8 : Kp := ⟨[paA 7 6], app (mmC 0 0 pb8 tb8) ([(2, xsC 14 xb0), (3, xsC 17 xb1)]), 4, 20, .s (.agg ([.sl 242 0 1 2])), [(242, [.sl 238 0 1 1, .sl 240 0 1 3]), (238, [.int 0]), (240, xsC 975 [⟨0, 1, [(1, 1), (256, 1)]⟩])], xisF [(955, cx 0 1), (0, ⟨0, 1, [(1, 1), (256, 1)]⟩)]⟩
theorem kb5_8_ok : kb5_8.ok ob4 100 = true := by kernel_rfl
noncomputable def kb5_9 : Kp := ⟨[paA 7 6], app (mmC 0 0 pb9 tb9) ([(2, xsC 14 xb0), (3, xsC 17 xb1)]), 4, 20, .s (.agg ([.sl 242 0 1 2])), [(242, [.sl 238 0 1 1, .sl 240 0 1 3]), (238, [.int 0]), (240, xsC 975 [⟨0, 1, [(1, 1), (256, 1)]⟩])], xisF [(955, cx 0 1), (0, ⟨0, 1, [(1, 1), (256, 1)]⟩)]⟩
theorem kb5_9_ok : kb5_9.ok ob4 100 = true := by kernel_rfl
noncomputable def kb5_10 : Kp := ⟨[paA 7 6], app (mmC 0 0 pb10 tb10) ([(2, xsC 14 xb0), (3, xsC 17 xb1)]), 4, 20, .s (.agg ([.sl 242 0 1 2])), [(242, [.sl 238 0 1 1, .sl 240 0 1 3]), (238, [.int 0]), (240, xsC 975 [⟨0, 1, [(1, 1), (256, 1)]⟩])], xisF [(955, cx 0 1), (0, ⟨0, 1, [(1, 1), (256, 1)]⟩)]⟩
theorem kb5_10_ok : kb5_10.ok ob4 100 = true := by kernel_rfl
noncomputable def kb5_11 : Kp := ⟨[paA 8 7], app (mmC 0 0 pb11 tb11) ([(2, xsC 16 xb0), (3, xsC 19 xb1)]), 4, 22, .s (.agg ([.sl 278 0 1 2])), [(278, [.sl 274 0 1 1, .sl 276 0 1 3]), (274, [.int 0]), (276, xsC 1136 [⟨0, 1, [(1, 1), (256, 1)]⟩])], xisF [(1114, cx 0 1), (0, ⟨0, 1, [(1, 1), (256, 1)]⟩)]⟩
theorem kb5_11_ok : kb5_11.ok ob4 100 = true := by kernel_rfl
noncomputable def kb5_12 : Kp := ⟨[paA 8 7], app (mmC 0 0 pb12 tb12) ([(2, xsC 16 xb0), (3, xsC 19 xb1)]), 4, 22, .s (.agg ([.sl 278 0 1 2])), [(278, [.sl 274 0 1 1, .sl 276 0 1 3]), (274, [.int 0]), (276, xsC 1136 [⟨0, 1, [(1, 1), (256, 1)]⟩])], xisF [(1114, cx 0 1), (0, ⟨0, 1, [(1, 1), (256, 1)]⟩)]⟩
theorem kb5_12_ok : kb5_12.ok ob4 100 = true := by kernel_rfl
noncomputable def kb5_13 : Kp := ⟨[paA 8 7], app (mmC 0 0 pb13 tb13) ([(2, xsC 16 xb0), (3, xsC 19 xb1)]), 4, 22, .s (.agg ([.sl 278 0 1 2])), [(278, [.sl 274 0 1 1, .sl 276 0 1 3]), (274, [.int 0]), (276, xsC 1136 [⟨0, 1, [(1, 1), (256, 1)]⟩])], xisF [(1114, cx 0 1), (0, ⟨0, 1, [(1, 1), (256, 1)]⟩)]⟩
theorem kb5_13_ok : kb5_13.ok ob4 100 = true := by kernel_rfl
noncomputable def kb5_14 : Kp := ⟨[paA 8 7], app (mmC 0 0 pb14 tb14) ([(2, xsC 16 xb0), (3, xsC 19 xb1)]), 4, 22, .s (.agg ([.sl 278 0 1 2])), [(278, [.sl 274 0 1 1, .sl 276 0 1 3]), (274, [.int 0]), (276, xsC 1136 [⟨0, 1, [(1, 1), (256, 1)]⟩])], xisF [(1114, cx 0 1), (0, ⟨0, 1, [(1, 1), (256, 1)]⟩)]⟩
theorem kb5_14_ok : kb5_14.ok ob4 100 = true := by kernel_rfl
noncomputable def ob5 : Orcs := withK 100 [kb5_0, kb5_1, kb5_2, kb5_3, kb5_4, kb5_5, kb5_6, kb5_7, kb5_8, kb5_9, kb5_10, kb5_11, kb5_12, kb5_13, kb5_14] ob4
theorem ob5_ok : OkP parCs01 ob5 := withK_ok ob4_ok ⟨kb5_0_ok, kb5_1_ok, kb5_2_ok, kb5_3_ok, kb5_4_ok, kb5_5_ok, kb5_6_ok, kb5_7_ok, kb5_8_ok, kb5_9_ok, kb5_10_ok, kb5_11_ok, kb5_12_ok, kb5_13_ok, kb5_14_ok, trivial⟩
noncomputable def kb6_0 : Kp := ⟨[paA 5 4], app (mmC 0 0 pb0 tb0) ([(2, xsC 10 xb0), (3, xsC 13 xb1)]), 4, 16, .s (.c (.sl 78 0 1 3)), [(78, xsC 93 [⟨0, 3, [(16, 2), (4096, 2)]⟩])], xisF [(77, cx 0 1), (0, ⟨0, 3, [(16, 2), (4096, 2)]⟩)]⟩
theorem kb6_0_ok : kb6_0.ok ob5 102 = true := by kernel_rfl
noncomputable def kb6_1 : Kp := ⟨[paA 6 5], app (mmC 0 0 pb1 tb1) ([(2, xsC 12 xb0), (3, xsC 15 xb1)]), 4, 18, .s (.c (.sl 94 0 1 3)), [(94, xsC 114 [⟨0, 3, [(16, 2), (4096, 2)]⟩])], xisF [(96, cx 0 1), (0, ⟨0, 3, [(16, 2), (4096, 2)]⟩)]⟩
theorem kb6_1_ok : kb6_1.ok ob5 102 = true := by kernel_rfl
noncomputable def kb6_2 : Kp := ⟨[paA 6 5], app (mmC 0 0 pb2 tb2) ([(2, xsC 12 xb0), (3, xsC 15 xb1)]), 4, 18, .s (.c (.sl 94 0 1 3)), [(94, xsC 114 [⟨0, 3, [(16, 2), (4096, 2)]⟩])], xisF [(96, cx 0 1), (0, ⟨0, 3, [(16, 2), (4096, 2)]⟩)]⟩
theorem kb6_2_ok : kb6_2.ok ob5 102 = true := by kernel_rfl
noncomputable def kb6_3 : Kp := ⟨[paA 6 5], app (mmC 0 0 pb3 tb3) ([(2, xsC 12 xb0), (3, xsC 15 xb1)]), 4, 18, .s (.c (.sl 94 0 1 3)), [(94, xsC 114 [⟨0, 3, [(16, 2), (4096, 2)]⟩])], xisF [(96, cx 0 1), (0, ⟨0, 3, [(16, 2), (4096, 2)]⟩)]⟩
theorem kb6_3_ok : kb6_3.ok ob5 102 = true := by kernel_rfl
noncomputable def kb6_4 : Kp := ⟨[paA 6 5], app (mmC 0 0 pb4 tb4) ([(2, xsC 12 xb0), (3, xsC 15 xb1)]), 4, 18, .s (.c (.sl 94 0 1 3)), [(94, xsC 114 [⟨0, 3, [(16, 2), (4096, 2)]⟩])], xisF [(96, cx 0 1), (0, ⟨0, 3, [(16, 2), (4096, 2)]⟩)]⟩
theorem kb6_4_ok : kb6_4.ok ob5 102 = true := by kernel_rfl
noncomputable def kb6_5 : Kp := ⟨[paA 7 6], app (mmC 0 0 pb5 tb5) ([(2, xsC 14 xb0), (3, xsC 17 xb1)]), 4, 20, .s (.c (.sl 110 0 1 3)), [(110, xsC 135 [⟨0, 3, [(16, 2), (4096, 2)]⟩])], xisF [(115, cx 0 1), (0, ⟨0, 3, [(16, 2), (4096, 2)]⟩)]⟩
theorem kb6_5_ok : kb6_5.ok ob5 102 = true := by kernel_rfl
noncomputable def kb6_6 : Kp := ⟨[paA 7 6], app (mmC 0 0 pb6 tb6) ([(2, xsC 14 xb0), (3, xsC 17 xb1)]), 4, 20, .s (.c (.sl 110 0 1 3)), [(110, xsC 135 [⟨0, 3, [(16, 2), (4096, 2)]⟩])], xisF [(115, cx 0 1), (0, ⟨0, 3, [(16, 2), (4096, 2)]⟩)]⟩
theorem kb6_6_ok : kb6_6.ok ob5 102 = true := by kernel_rfl
noncomputable def kb6_7 : Kp := ⟨[paA 7 6], app (mmC 0 0 pb7 tb7) ([(2, xsC 14 xb0), (3, xsC 17 xb1)]), 4, 20, .s (.c (.sl 110 0 1 3)), [(110, xsC 135 [⟨0, 3, [(16, 2), (4096, 2)]⟩])], xisF [(115, cx 0 1), (0, ⟨0, 3, [(16, 2), (4096, 2)]⟩)]⟩
theorem kb6_7_ok : kb6_7.ok ob5 102 = true := by kernel_rfl
noncomputable def kb6_8 : Kp := ⟨[paA 7 6], app (mmC 0 0 pb8 tb8) ([(2, xsC 14 xb0), (3, xsC 17 xb1)]), 4, 20, .s (.c (.sl 110 0 1 3)), [(110, xsC 135 [⟨0, 3, [(16, 2), (4096, 2)]⟩])], xisF [(115, cx 0 1), (0, ⟨0, 3, [(16, 2), (4096, 2)]⟩)]⟩
theorem kb6_8_ok : kb6_8.ok ob5 102 = true := by kernel_rfl
noncomputable def kb6_9 : Kp := ⟨[paA 7 6], app (mmC 0 0 pb9 tb9) ([(2, xsC 14 xb0), (3, xsC 17 xb1)]), 4, 20, .s (.c (.sl 110 0 1 3)), [(110, xsC 135 [⟨0, 3, [(16, 2), (4096, 2)]⟩])], xisF [(115, cx 0 1), (0, ⟨0, 3, [(16, 2), (4096, 2)]⟩)]⟩
theorem kb6_9_ok : kb6_9.ok ob5 102 = true := by kernel_rfl
noncomputable def kb6_10 : Kp := ⟨[paA 7 6], app (mmC 0 0 pb10 tb10) ([(2, xsC 14 xb0), (3, xsC 17 xb1)]), 4, 20, .s (.c (.sl 110 0 1 3)), [(110, xsC 135 [⟨0, 3, [(16, 2), (4096, 2)]⟩])], xisF [(115, cx 0 1), (0, ⟨0, 3, [(16, 2), (4096, 2)]⟩)]⟩
theorem kb6_10_ok : kb6_10.ok ob5 102 = true := by kernel_rfl
noncomputable def kb6_11 : Kp := ⟨[paA 8 7], app (mmC 0 0 pb11 tb11) ([(2, xsC 16 xb0), (3, xsC 19 xb1)]), 4, 22, .s (.c (.sl 126 0 1 3)), [(126, xsC 156 [⟨0, 3, [(16, 2), (4096, 2)]⟩])], xisF [(134, cx 0 1), (0, ⟨0, 3, [(16, 2), (4096, 2)]⟩)]⟩
theorem kb6_11_ok : kb6_11.ok ob5 102 = true := by kernel_rfl
noncomputable def kb6_12 : Kp := ⟨[paA 8 7], app (mmC 0 0 pb12 tb12) ([(2, xsC 16 xb0), (3, xsC 19 xb1)]), 4, 22, .s (.c (.sl 126 0 1 3)), [(126, xsC 156 [⟨0, 3, [(16, 2), (4096, 2)]⟩])], xisF [(134, cx 0 1), (0, ⟨0, 3, [(16, 2), (4096, 2)]⟩)]⟩
theorem kb6_12_ok : kb6_12.ok ob5 102 = true := by kernel_rfl
noncomputable def kb6_13 : Kp := ⟨[paA 8 7], app (mmC 0 0 pb13 tb13) ([(2, xsC 16 xb0), (3, xsC 19 xb1)]), 4, 22, .s (.c (.sl 126 0 1 3)), [(126, xsC 156 [⟨0, 3, [(16, 2), (4096, 2)]⟩])], xisF [(134, cx 0 1), (0, ⟨0, 3, [(16, 2), (4096, 2)]⟩)]⟩
theorem kb6_13_ok : kb6_13.ok ob5 102 = true := by kernel_rfl
noncomputable def kb6_14 : Kp := ⟨[paA 8 7], app (mmC 0 0 pb14 tb14) ([(2, xsC 16 xb0), (3, xsC 19 xb1)]), 4, 22, .s (.c (.sl 126 0 1 3)), [(126, xsC 156 [⟨0, 3, [(16, 2), (4096, 2)]⟩])], xisF [(134, cx 0 1), (0, ⟨0, 3, [(16, 2), (4096, 2)]⟩)]⟩
theorem kb6_14_ok : kb6_14.ok ob5 102 = true := by kernel_rfl
noncomputable def ob6 : Orcs := withK 102 [kb6_0, kb6_1, kb6_2, kb6_3, kb6_4, kb6_5, kb6_6, kb6_7, kb6_8, kb6_9, kb6_10, kb6_11, kb6_12, kb6_13, kb6_14] ob5
theorem ob6_ok : OkP parCs01 ob6 := withK_ok ob5_ok ⟨kb6_0_ok, kb6_1_ok, kb6_2_ok, kb6_3_ok, kb6_4_ok, kb6_5_ok, kb6_6_ok, kb6_7_ok, kb6_8_ok, kb6_9_ok, kb6_10_ok, kb6_11_ok, kb6_12_ok, kb6_13_ok, kb6_14_ok, trivial⟩
end Go.Proofs.YtcblajhfehadaaaGreat
