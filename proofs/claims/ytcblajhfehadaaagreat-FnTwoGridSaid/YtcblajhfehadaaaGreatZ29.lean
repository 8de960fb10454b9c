/-
 Shared texts (Z29).
-/
import Derived.Test.YtcblajhfehadaaaGreatZ16
namespace Go.Proofs.YtcblajhfehadaaaGreat
open Go.RowKit Go.Joins Go.SX
set_option maxRecDepth 1000000
noncomputable def parCs10 : Par := ⟨[.k 0, .f 2, .k 3, .f 5, .k 6, .f 8, .u 14, .u 16, .u 18, .u 20, .u 22, .u 24, .u 26, .u 28, .u 35, .u 37, .u 39, .u 41], [⟨[(0, 1)], [(1, 1)], 5, true⟩]⟩
theorem parCs10_ok : parCs10.ok = true := by kernel_rfl
def ctsCs10 : List (List (M × M)) := [[([(1, 8)], [(4722366482869645213712, 1)])],
 [([(1, 1)], [(72057594037927936, (-19)), (4722366482869645213712, 48)])]]
noncomputable def bc : Orcs := orcG parCs10 ctsCs10
noncomputable def pc0 : List (Int × Nat) := [(0, 1), (0, 1), (2, 1), (0, 1), (2, 1), (1, 1), (0, 1), (2, 1)]
noncomputable def tc0 : List C := intsC [1, 2, 0, 0, 0, 3, 0, 2, 0, 0]
noncomputable def kc0_0 : Kp := ⟨[maA 0 4 2], mmC 0 0 pc0 tc0, 2, 8, .s (.c (.bool true)), [], xisF []⟩
theorem kc0_0_ok : kc0_0.ok bc 58 = true := by kernel_rfl
noncomputable def pc1 : List (Int × Nat) := [(0, 1), (0, 1), (2, 1), (0, 1), (2, 1), (1, 1), (0, 1), (2, 1), (1, 1), (1, 2)]
noncomputable def tc1 : List C := intsC [4, 1, 2, 0, 1, 4, 0, 1, 0, 1, 4, 3, 0, 0, 1, 4, 2, 3, 0, 1]
noncomputable def kc0_1 : Kp := ⟨[maA 0 5 4], mmC 0 0 pc1 tc1, 2, 10, .s (.c (.bool true)), [], xisF []⟩
theorem kc0_1_ok : kc0_1.ok bc 58 = true := by kernel_rfl
noncomputable def oc0 : Orcs := withK 58 [kc0_0, kc0_1] bc
theorem oc0_ok : OkP parCs10 oc0 := withK_ok (orcG_ok parCs10_ok ctsCs10) ⟨kc0_0_ok, kc0_1_ok, trivial⟩
noncomputable def tc2 : List C := intsC [0, 1, 0, -1, 0, 2, 1, 0, 0, 3, -1, 1, 1, 2, 0, -1, 2, 3, 1, -1]
noncomputable def kc1_0 : Kp := ⟨[maA 0 4 2], mmC 0 0 pc0 tc0, 2, 8, .s (.c (.sl 75 0 5 4)), [(75, tc2)], xisF []⟩
theorem kc1_0_ok : kc1_0.ok oc0 138 = true := by kernel_rfl
noncomputable def tc3 : List C := intsC [0, 1, 1, -1, 0, 3, -1, 2, 0, 4, 2, 1, 1, 2, 0, -1, 1, 4, 1, 0, 2, 3, 3, -1, 2, 4, 0, 3, 3, 4, 3, 2]
noncomputable def kc1_1 : Kp := ⟨[maA 0 5 4], mmC 0 0 pc1 tc1, 2, 10, .s (.c (.sl 153 0 8 4)), [(153, tc3)], xisF []⟩
theorem kc1_1_ok : kc1_1.ok oc0 138 = true := by kernel_rfl
noncomputable def oc1 : Orcs := withK 138 [kc1_0, kc1_1] oc0
theorem oc1_ok : OkP parCs10 oc1 := withK_ok oc0_ok ⟨kc1_0_ok, kc1_1_ok, trivial⟩
noncomputable def kc2_0 : Kp := ⟨[maA 0 4 2, .s (.c (.bool false))], mmC 0 0 pc0 tc0, 2, 8, .s (.c (.sl 10 0 0 1)), [(10, [])], xisF []⟩
theorem kc2_0_ok : kc2_0.ok oc1 59 = true := by kernel_rfl
noncomputable def kc2_1 : Kp := ⟨[maA 0 5 4, .s (.c (.bool false))], mmC 0 0 pc1 tc1, 2, 10, .s (.c (.sl 15 0 1 1)), [(15, [.int 4])], xisF []⟩
theorem kc2_1_ok : kc2_1.ok oc1 59 = true := by kernel_rfl
noncomputable def oc2 : Orcs := withK 59 [kc2_0, kc2_1] oc1
theorem oc2_ok : OkP parCs10 oc2 := withK_ok oc1_ok ⟨kc2_0_ok, kc2_1_ok, trivial⟩
noncomputable def kc3_0 : Kp := ⟨[maA 0 4 2, .s (.c (.sl 2 0 0 1))], app (mmC 0 0 pc0 tc0) ([(2, [])]), 3, 8, .s (.agg ([.sl 102 0 4 6, .sl 139 0 2 5])), [(102, ptsC 8 pc0), (139, tc0)], xpF [(0, 8)] pc0⟩
theorem kc3_0_ok : kc3_0.ok oc2 154 = true := by kernel_rfl
noncomputable def kc3_1 : Kp := ⟨[maA 0 4 2, .s (.c (.sl 2 0 1 1))], app (mmC 0 0 pc0 tc0) ([(2, [.int 1])]), 3, 8, .s (.agg ([.sl 58 0 5 6, .sl 163 0 4 5])), [(58, tpC [(8, 8), (19, 2)] pc1), (163, tc1)], xpF [(0, 8), (3, 2)] pc1⟩
theorem kc3_1_ok : kc3_1.ok oc2 154 = true := by kernel_rfl
noncomputable def oc3 : Orcs := withK 154 [kc3_0, kc3_1] oc2
theorem oc3_ok : OkP parCs10 oc3 := withK_ok oc2_ok ⟨kc3_0_ok, kc3_1_ok, trivial⟩
noncomputable def kc4_0 : Kp := ⟨[maA 0 4 2, maA 2 4 2], app (mmC 0 0 pc0 tc0) (mmC 2 8 pc0 tc0), 4, 16, .tup [.c (.sl 6 0 0 1), .c (.sl 19 0 4 1), .c (.bool true)], [(6, []), (19, [.sl 8 0 1 1, .sl 11 0 1 1, .sl 14 0 1 1, .sl 17 0 1 1]), (8, [.int 0]), (11, [.int 1]), (14, [.int 2]), (17, [.int 3])], xisF [(33, cx 0 1)]⟩
theorem kc4_0_ok : kc4_0.ok oc3 160 = true := by kernel_rfl
noncomputable def kc4_1 : Kp := ⟨[maA 0 4 2, maA 2 5 4], app (mmC 0 0 pc0 tc0) (mmC 2 8 pc1 tc1), 4, 18, .tup [.c (.sl 56 0 1 1), .c (.sl 59 0 5 1), .c (.bool true)], [(56, [.int 1]), (59, [.sl 8 0 1 1, .sl 11 0 1 1, .sl 14 0 1 1, .sl 17 0 1 1, .sl 57 0 2 1]), (8, [.int 0]), (11, [.int 1]), (14, [.int 2]), (17, [.int 3]), (57, [.int 0, .int 2])], xisF [(38, cx 0 1)]⟩
theorem kc4_1_ok : kc4_1.ok oc3 160 = true := by kernel_rfl
noncomputable def oc4 : Orcs := withK 160 [kc4_0, kc4_1] oc3
theorem oc4_ok : OkP parCs10 oc4 := withK_ok oc3_ok ⟨kc4_0_ok, kc4_1_ok, trivial⟩
end Go.Proofs.YtcblajhfehadaaaGreat
