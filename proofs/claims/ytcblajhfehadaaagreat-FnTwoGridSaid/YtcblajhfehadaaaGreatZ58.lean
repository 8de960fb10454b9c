/-
 Shared texts (Z58).
-/
import Derived.Test.YtcblajhfehadaaaGreatZ33
namespace Go.Proofs.YtcblajhfehadaaaGreat
open Go.RowKit Go.Joins Go.SX
set_option maxRecDepth 1000000
noncomputable def xe0 : List X := [⟨0, 2, [(1, 1)]⟩, ⟨0, 2, [(256, 1)]⟩, ⟨0, 2, [(65536, 1)]⟩]
noncomputable def xe1 : List X := [⟨0, 1, [(16, 1)]⟩, ⟨0, 1, [(4096, 1)]⟩, ⟨0, 1, [(1048576, 1)]⟩]
noncomputable def ke5_0 : Kp := ⟨[paA 4 2], app (mmC 0 0 pe0 te0) ([(2, xsC 8 xe0), (3, xsC 11 xe1)]), 4, 14, .s (.agg ([.nsl])), [], xisF []⟩
theorem ke5_0_ok : ke5_0.ok oe4 100 = true := by kernel_rfl
noncomputable def ke5_1 : Kp := ⟨[paA 5 4], app (mmC 0 0 pe1 te1) ([(2, xsC 10 xe0), (3, xsC 13 xe1)]), 4, 16, .s (.agg ([.sl 170 0 1 2])), [(170, [.sl 166 0 1 1, .sl 168 0 1 3]), (166, [.int 0]), (168, xsC 653 [⟨0, 8, [(1, 10), (65536, 9)]⟩])], xisF [(637, cx 0 1), (0, ⟨0, 8, [(1, 10), (65536, 9)]⟩)]⟩
theorem ke5_1_ok : ke5_1.ok oe4 100 = true := by kernel_rfl
noncomputable def oe5 : Orcs := withK 100 [ke5_0, ke5_1] oe4
theorem oe5_ok : OkP parCs12 oe5 := withK_ok oe4_ok ⟨ke5_0_ok, ke5_1_ok, trivial⟩
noncomputable def ke6_0 : Kp := ⟨[paA 4 2], app (mmC 0 0 pe0 te0) ([(2, xsC 8 xe0), (3, xsC 11 xe1)]), 4, 14, .s (.c (.sl 43 0 0 3)), [(43, [])], xisF [(37, cx 0 1)]⟩
theorem ke6_0_ok : ke6_0.ok oe5 102 = true := by kernel_rfl
noncomputable def ke6_1 : Kp := ⟨[paA 5 4], app (mmC 0 0 pe1 te1) ([(2, xsC 10 xe0), (3, xsC 13 xe1)]), 4, 16, .s (.c (.sl 78 0 1 3)), [(78, xsC 93 [⟨0, 3, [(16, 1), (1048576, 2)]⟩])], xisF [(77, cx 0 1), (0, ⟨0, 3, [(16, 1), (1048576, 2)]⟩)]⟩
theorem ke6_1_ok : ke6_1.ok oe5 102 = true := by kernel_rfl
noncomputable def oe6 : Orcs := withK 102 [ke6_0, ke6_1] oe5
theorem oe6_ok : OkP parCs12 oe6 := withK_ok oe5_ok ⟨ke6_0_ok, ke6_1_ok, trivial⟩
end Go.Proofs.YtcblajhfehadaaaGreat
