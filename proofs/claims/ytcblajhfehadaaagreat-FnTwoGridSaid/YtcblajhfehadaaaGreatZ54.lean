/-
 Shared texts (Z54).
-/
import Derived.Test.YtcblajhfehadaaaGreatZ29
namespace Go.Proofs.YtcblajhfehadaaaGreat
open Go.RowKit Go.Joins Go.SX
set_option maxRecDepth 1000000
noncomputable def xc0 : List X := [⟨0, 2, [(1, 1)]⟩, ⟨0, 2, [(256, 1)]⟩, ⟨0, 2, [(65536, 1)]⟩]
noncomputable def xc1 : List X := [⟨0, 1, [(16, 1)]⟩, ⟨0, 1, [(4096, 1)]⟩, ⟨0, 1, [(1048576, 1)]⟩]
noncomputable def kc5_0 : Kp := ⟨[paA 4 2], app (mmC 0 0 pc0 tc0) ([(2, xsC 8 xc0), (3, xsC 11 xc1)]), 4, 14, .s (.agg ([.nsl])), [], xisF []⟩
theorem kc5_0_ok : kc5_0.ok oc4 100 = true := by kernel_rfl
noncomputable def kc5_1 : Kp := ⟨[paA 5 4], app (mmC 0 0 pc1 tc1) ([(2, xsC 10 xc0), (3, xsC 13 xc1)]), 4, 16, .s (.agg ([.sl 170 0 1 2])), [(170, [.sl 166 0 1 1, .sl 168 0 1 3]), (166, [.int 0]), (168, xsC 653 [⟨0, 8, [(1, 19)]⟩])], xisF [(637, cx 0 1), (0, ⟨0, 8, [(1, 19)]⟩)]⟩
theorem kc5_1_ok : kc5_1.ok oc4 100 = true := by kernel_rfl
noncomputable def oc5 : Orcs := withK 100 [kc5_0, kc5_1] oc4
theorem oc5_ok : OkP parCs10 oc5 := withK_ok oc4_ok ⟨kc5_0_ok, kc5_1_ok, trivial⟩
noncomputable def kc6_0 : Kp := ⟨[paA 4 2], app (mmC 0 0 pc0 tc0) ([(2, xsC 8 xc0), (3, xsC 11 xc1)]), 4, 14, .s (.c (.sl 43 0 0 3)), [(43, [])], xisF [(37, cx 0 1)]⟩
theorem kc6_0_ok : kc6_0.ok oc5 102 = true := by kernel_rfl
noncomputable def kc6_1 : Kp := ⟨[paA 5 4], app (mmC 0 0 pc1 tc1) ([(2, xsC 10 xc0), (3, xsC 13 xc1)]), 4, 16, .s (.c (.sl 78 0 1 3)), [(78, xsC 93 [⟨0, 1, [(16, 1)]⟩])], xisF [(77, cx 0 1), (0, ⟨0, 1, [(16, 1)]⟩)]⟩
theorem kc6_1_ok : kc6_1.ok oc5 102 = true := by kernel_rfl
noncomputable def oc6 : Orcs := withK 102 [kc6_0, kc6_1] oc5
theorem oc6_ok : OkP parCs10 oc6 := withK_ok oc5_ok ⟨kc6_0_ok, kc6_1_ok, trivial⟩
end Go.Proofs.YtcblajhfehadaaaGreat
