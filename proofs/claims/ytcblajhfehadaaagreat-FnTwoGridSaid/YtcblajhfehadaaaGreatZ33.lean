/-
 Shared texts (Z33).
-/
import Derived.Test.YtcblajhfehadaaaGreatZ16
namespace Go.Proofs.YtcblajhfehadaaaGreat
open Go.RowKit Go.Joins Go.SX
set_option maxRecDepth 1000000
noncomputable def parCs12 : Par := ⟨[.k 0, .f 2, .k 3, .f 5, .k 6, .f 8, .u 14, .u 16, .u 18, .u 20, .u 22, .u 24, .u 26, .u 28, .u 35, .u 37, .u 39, .u 41], [⟨[(0, 1)], [(1, 10), (65536, 9)], 13, true⟩]⟩
theorem parCs12_ok : parCs12.ok = true := by kernel_rfl
def ctsCs12 : List (List (M × M)) := [[([(1, 80), (65536, 72)], [(4722366482869645213712, 1), (4722366482869646262272, 2)])],
 [([(1, 10), (65536, 9)], [(72057594037927936, (-1)), (4722366482869645213712, 16), (4722366482869646262272, 32)])]]
noncomputable def be : Orcs := orcG parCs12 ctsCs12
noncomputable def pe0 : List (Int × Nat) := [(0, 1), (0, 1), (2, 1), (0, 1), (2, 1), (1, 1), (0, 1), (2, 1)]
noncomputable def te0 : List C := intsC [1, 2, 0, 0, 0, 3, 0, 2, 2, 0]
noncomputable def ke0_0 : Kp := ⟨[maA 0 4 2], mmC 0 0 pe0 te0, 2, 8, .s (.c (.bool true)), [], xisF []⟩
theorem ke0_0_ok : ke0_0.ok be 58 = true := by kernel_rfl
noncomputable def pe1 : List (Int × Nat) := [(0, 1), (0, 1), (2, 1), (0, 1), (2, 1), (1, 1), (0, 1), (2, 1), (1, 1), (1, 2)]
noncomputable def te1 : List C := intsC [4, 1, 2, 0, 1, 4, 0, 1, 0, 1, 4, 3, 0, 2, 1, 4, 2, 3, 2, 1]
noncomputable def ke0_1 : Kp := ⟨[maA 0 5 4], mmC 0 0 pe1 te1, 2, 10, .s (.c (.bool true)), [], xisF []⟩
theorem ke0_1_ok : ke0_1.ok be 58 = true := by kernel_rfl
noncomputable def oe0 : Orcs := withK 58 [ke0_0, ke0_1] be
theorem oe0_ok : OkP parCs12 oe0 := withK_ok (orcG_ok parCs12_ok ctsCs12) ⟨ke0_0_ok, ke0_1_ok, trivial⟩
noncomputable def te2 : List C := intsC [0, 1, 0, -1, 0, 2, 1, 0, 0, 3, -1, 1, 1, 2, 0, -1, 2, 3, 1, -1]
noncomputable def ke1_0 : Kp := ⟨[maA 0 4 2], mmC 0 0 pe0 te0, 2, 8, .s (.c (.sl 75 0 5 4)), [(75, te2)], xisF []⟩
theorem ke1_0_ok : ke1_0.ok oe0 138 = true := by kernel_rfl
noncomputable def te3 : List C := intsC [0, 1, 1, -1, 0, 3, -1, 2, 0, 4, 2, 1, 1, 2, 0, -1, 1, 4, 1, 0, 2, 3, 3, -1, 2, 4, 0, 3, 3, 4, 3, 2]
noncomputable def ke1_1 : Kp := ⟨[maA 0 5 4], mmC 0 0 pe1 te1, 2, 10, .s (.c (.sl 153 0 8 4)), [(153, te3)], xisF []⟩
theorem ke1_1_ok : ke1_1.ok oe0 138 = true := by kernel_rfl
noncomputable def oe1 : Orcs := withK 138 [ke1_0, ke1_1] oe0
theorem oe1_ok : OkP parCs12 oe1 := withK_ok oe0_ok ⟨ke1_0_ok, ke1_1_ok, trivial⟩
noncomputable def ke2_0 : Kp := ⟨[maA 0 4 2, .s (.c (.bool false))], mmC 0 0 pe0 te0, 2, 8, .s (.c (.sl 10 0 0 1)), [(10, [])], xisF []⟩
theorem ke2_0_ok : ke2_0.ok oe1 59 = true := by kernel_rfl
noncomputable def ke2_1 : Kp := ⟨[maA 0 5 4, .s (.c (.bool false))], mmC 0 0 pe1 te1, 2, 10, .s (.c (.sl 15 0 1 1)), [(15, [.int 4])], xisF []⟩
theorem ke2_1_ok : ke2_1.ok oe1 59 = true := by kernel_rfl
noncomputable def oe2 : Orcs := withK 59 [ke2_0, ke2_1] oe1
theorem oe2_ok : OkP parCs12 oe2 := withK_ok oe1_ok ⟨ke2_0_ok, ke2_1_ok, trivial⟩
noncomputable def ke3_0 : Kp := ⟨[maA 0 4 2, .s (.c (.sl 2 0 0 1))], app (mmC 0 0 pe0 te0) ([(2, [])]), 3, 8, .s (.agg ([.sl 102 0 4 6, .sl 139 0 2 5])), [(102, ptsC 8 pe0), (139, te0)], xpF [(0, 8)] pe0⟩
theorem ke3_0_ok : ke3_0.ok oe2 154 = true := by kernel_rfl
noncomputable def ke3_1 : Kp := ⟨[maA 0 4 2, .s (.c (.sl 2 0 1 1))], app (mmC 0 0 pe0 te0) ([(2, [.int 1])]), 3, 8, .s (.agg ([.sl 58 0 5 6, .sl 163 0 4 5])), [(58, tpC [(8, 8), (19, 2)] pe1), (163, te1)], xpF [(0, 8), (3, 2)] pe1⟩
theorem ke3_1_ok : ke3_1.ok oe2 154 = true := by kernel_rfl
noncomputable def oe3 : Orcs := withK 154 [ke3_0, ke3_1] oe2
theorem oe3_ok : OkP parCs12 oe3 := withK_ok oe2_ok ⟨ke3_0_ok, ke3_1_ok, trivial⟩
noncomputable def ke4_0 : Kp := ⟨[maA 0 4 2, maA 2 4 2], app (mmC 0 0 pe0 te0) (mmC 2 8 pe0 te0), 4, 16, .tup [.c (.sl 6 0 0 1), .c (.sl 19 0 4 1), .c (.bool true)], [(6, []), (19, [.sl 8 0 1 1, .sl 11 0 1 1, .sl 14 0 1 1, .sl 17 0 1 1]), (8, [.int 0]), (11, [.int 1]), (14, [.int 2]), (17, [.int 3])], xisF [(33, cx 0 1)]⟩
theorem ke4_0_ok : ke4_0.ok oe3 160 = true := by kernel_rfl
noncomputable def ke4_1 : Kp := ⟨[maA 0 4 2, maA 2 5 4], app (mmC 0 0 pe0 te0) (mmC 2 8 pe1 te1), 4, 18, .tup [.c (.sl 56 0 1 1), .c (.sl 59 0 5 1), .c (.bool true)], [(56, [.int 1]), (59, [.sl 8 0 1 1, .sl 11 0 1 1, .sl 14 0 1 1, .sl 17 0 1 1, .sl 57 0 2 1]), (8, [.int 0]), (11, [.int 1]), (14, [.int 2]), (17, [.int 3]), (57, [.int 0, .int 2])], xisF [(38, cx 0 1)]⟩
theorem ke4_1_ok : ke4_1.ok oe3 160 = true := by kernel_rfl
noncomputable def oe4 : Orcs := withK 160 [ke4_0, ke4_1] oe3
theorem oe4_ok : OkP parCs12 oe4 := withK_ok oe3_ok ⟨ke4_0_ok, ke4_1_ok, trivial⟩
end Go.Proofs.YtcblajhfehadaaaGreat
