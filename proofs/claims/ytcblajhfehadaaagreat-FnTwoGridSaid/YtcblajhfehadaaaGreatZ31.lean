/-
 Shared texts (Z31).
-/
import Derived.Test.YtcblajhfehadaaaGreatZ16
namespace Go.Proofs.YtcblajhfehadaaaGreat
open Go.RowKit Go.Joins Go.SX
set_option maxRecDepth 1000000
noncomputable def parCs11 : Par := ⟨[.k 0, .f 2, .k 3, .f 5, .k 6, .f 8, .u 14, .u 16, .u 18, .u 20, .u 22, .u 24, .u 26, .u 28, .u 35, .u 37, .u 39, .u 41], [⟨[(0, 1)], [(1, 10), (256, 9)], 13, true⟩]⟩
theorem parCs11_ok : parCs11.ok = true := by kernel_rfl
def ctsCs11 : List (List (M × M)) := [[([(1, 80), (256, 72)], [(4722366482869645213712, 1), (4722366482869645217792, 2)])],
 [([(1, 10), (256, 9)], [(72057594037927936, (-1)), (4722366482869645213712, 16), (4722366482869645217792, 32)])]]
noncomputable def bd : Orcs := orcG parCs11 ctsCs11
noncomputable def pd0 : List (Int × Nat) := [(0, 1), (0, 1), (2, 1), (0, 1), (2, 1), (1, 1), (0, 1), (2, 1)]
noncomputable def td0 : List C := intsC [1, 2, 0, 0, 0, 3, 0, 2, 1, 0]
noncomputable def kd0_0 : Kp := ⟨[maA 0 4 2], mmC 0 0 pd0 td0, 2, 8, .s (.c (.bool true)), [], xisF []⟩
theorem kd0_0_ok : kd0_0.ok bd 58 = true := by kernel_rfl
noncomputable def pd1 : List (Int × Nat) := [(0, 1), (0, 1), (2, 1), (0, 1), (2, 1), (1, 1), (0, 1), (2, 1), (1, 1), (1, 2)]
noncomputable def td1 : List C := intsC [4, 1, 2, 0, 1, 4, 0, 1, 0, 1, 4, 3, 0, 1, 1, 4, 2, 3, 1, 1]
noncomputable def kd0_1 : Kp := ⟨[maA 0 5 4], mmC 0 0 pd1 td1, 2, 10, .s (.c (.bool true)), [], xisF []⟩
theorem kd0_1_ok : kd0_1.ok bd 58 = true := by kernel_rfl
noncomputable def od0 : Orcs := withK 58 [kd0_0, kd0_1] bd
theorem od0_ok : OkP parCs11 od0 := withK_ok (orcG_ok parCs11_ok ctsCs11) ⟨kd0_0_ok, kd0_1_ok, trivial⟩
noncomputable def td2 : List C := intsC [0, 1, 0, -1, 0, 2, 1, 0, 0, 3, -1, 1, 1, 2, 0, -1, 2, 3, 1, -1]
noncomputable def kd1_0 : Kp := ⟨[maA 0 4 2], mmC 0 0 pd0 td0, 2, 8, .s (.c (.sl 75 0 5 4)), [(75, td2)], xisF []⟩
theorem kd1_0_ok : kd1_0.ok od0 138 = true := by kernel_rfl
noncomputable def td3 : List C := intsC [0, 1, 1, -1, 0, 3, -1, 2, 0, 4, 2, 1, 1, 2, 0, -1, 1, 4, 1, 0, 2, 3, 3, -1, 2, 4, 0, 3, 3, 4, 3, 2]
noncomputable def kd1_1 : Kp := ⟨[maA 0 5 4], mmC 0 0 pd1 td1, 2, 10, .s (.c (.sl 153 0 8 4)), [(153, td3)], xisF []⟩
theorem kd1_1_ok : kd1_1.ok od0 138 = true := by kernel_rfl
noncomputable def od1 : Orcs := withK 138 [kd1_0, kd1_1] od0
theorem od1_ok : OkP parCs11 od1 := withK_ok od0_ok ⟨kd1_0_ok, kd1_1_ok, trivial⟩
noncomputable def kd2_0 : Kp := ⟨[maA 0 4 2, .s (.c (.bool false))], mmC 0 0 pd0 td0, 2, 8, .s (.c (.sl 10 0 0 1)), [(10, [])], xisF []⟩
theorem kd2_0_ok : kd2_0.ok od1 59 = true := by kernel_rfl
noncomputable def kd2_1 : Kp := ⟨[maA 0 5 4, .s (.c (.bool false))], mmC 0 0 pd1 td1, 2, 10, .s (.c (.sl 15 0 1 1)), [(15, [.int 4])], xisF []⟩
theorem kd2_1_ok : kd2_1.ok od1 59 = true := by kernel_rfl
noncomputable def od2 : Orcs := withK 59 [kd2_0, kd2_1] od1
theorem od2_ok : OkP parCs11 od2 := withK_ok od1_ok ⟨kd2_0_ok, kd2_1_ok, trivial⟩
noncomputable def kd3_0 : Kp := ⟨[maA 0 4 2, .s (.c (.sl 2 0 0 1))], app (mmC 0 0 pd0 td0) ([(2, [])]), 3, 8, .s (.agg ([.sl 102 0 4 6, .sl 139 0 2 5])), [(102, ptsC 8 pd0), (139, td0)], xpF [(0, 8)] pd0⟩
theorem kd3_0_ok : kd3_0.ok od2 154 = true := by kernel_rfl
noncomputable def kd3_1 : Kp := ⟨[maA 0 4 2, .s (.c (.sl 2 0 1 1))], app (mmC 0 0 pd0 td0) ([(2, [.int 1])]), 3, 8, .s (.agg ([.sl 58 0 5 6, .sl 163 0 4 5])), [(58, tpC [(8, 8), (19, 2)] pd1), (163, td1)], xpF [(0, 8), (3, 2)] pd1⟩
theorem kd3_1_ok : kd3_1.ok od2 154 = true := by kernel_rfl
noncomputable def od3 : Orcs := withK 154 [kd3_0, kd3_1] od2
theorem od3_ok : OkP parCs11 od3 := withK_ok od2_ok ⟨kd3_0_ok, kd3_1_ok, trivial⟩
noncomputable def kd4_0 : Kp := ⟨[maA 0 4 2, maA 2 4 2], app (mmC 0 0 pd0 td0) (mmC 2 8 pd0 td0), 4, 16, .tup [.c (.sl 6 0 0 1), .c (.sl 19 0 4 1), .c (.bool true)], [(6, []), (19, [.sl 8 0 1 1, .sl 11 0 1 1, .sl 14 0 1 1, .sl 17 0 1 1]), (8, [.int 0]), (11, [.int 1]), (14, [.int 2]), (17, [.int 3])], xisF [(33, cx 0 1)]⟩
theorem kd4_0_ok : kd4_0.ok od3 160 = true := by kernel_rfl
noncomputable def kd4_1 : Kp := ⟨[maA 0 4 2, maA 2 5 4], app (mmC 0 0 pd0 td0) (mmC 2 8 pd1 td1), 4, 18, .tup [.c (.sl 56 0 1 1), .c (.sl 59 0 5 1), .c (.bool true)], [(56, [.int 1]), (59, [.sl 8 0 1 1, .sl 11 0 1 1, .sl 14 0 1 1, .sl 17 0 1 1, .sl 57 0 2 1]), (8, [.int 0]), (11, [.int 1]), (14, [.int 2]), (17, [.int 3]), (57, [.int 0, .int 2])], xisF [(38, cx 0 1)]⟩
theorem kd4_1_ok : kd4_1.ok od3 160 = true := by kernel_rfl
noncomputable def od4 : Orcs := withK 160 [kd4_0, kd4_1] od3
theorem od4_ok : OkP parCs11 od4 := withK_ok od3_ok ⟨kd4_0_ok, kd4_1_ok, trivial⟩
end Go.Proofs.YtcblajhfehadaaaGreat
