/-
 Shared texts (Z56).
-/
import Derived.Test.YtcblajhfehadaaaGreatZ31
namespace Go.Proofs.YtcblajhfehadaaaGreat
open Go.RowKit Go.Joins Go.SX
set_option maxRecDepth 1000000
noncomputable def xd0 : List X := [⟨0, 2, [(1, 1)]⟩, ⟨0, 2, [(256, 1)]⟩, ⟨0, 2, [(65536, 1)]⟩]
noncomputable def xd1 : List X := [⟨0, 1, [(16, 1)]⟩, ⟨0, 1, [(4096, 1)]⟩, ⟨0, 1, [(1048576, 1)]⟩]
noncomputable def kd5_0 : Kp := ⟨[paA 4 2], app (mmC 0 0 pd0 td0) ([(2, xsC 8 xd0), (3, xsC 11 xd1)]), 4, 14, .s (.agg ([.nsl])), [], xisF []⟩
theorem kd5_0_ok : kd5_0.ok od4 100 = true := by kernel_rfl
noncomputable def kd5_1 : Kp := ⟨[paA 5 4], app (mmC 0 0 pd1 td1) ([(2, xsC 10 xd0), (3, xsC 13 xd1)]), 4, 16, .s (.agg ([.sl 170 0 1 2])), [(170, [.sl 166 0 1 1, .sl 168 0 1 3]), (166, [.int 0]), (168, xsC 653 [⟨0, 8, [(1, 10), (256, 9)]⟩])], xisF [(637, cx 0 1), (0, ⟨0, 8, [(1, 10), (256, 9)]⟩)]⟩
theorem kd5_1_ok : kd5_1.ok od4 100 = true := by kernel_rfl
noncomputable def od5 : Orcs := withK 100 [kd5_0, kd5_1] od4
theorem od5_ok : OkP parCs11 od5 := withK_ok od4_ok ⟨kd5_0_ok, kd5_1_ok, trivial⟩
noncomputable def kd6_0 : Kp := ⟨[paA 4 2], app (mmC 0 0 pd0 td0) ([(2, xsC 8 xd0), (3, xsC 11 xd1)]), 4, 14, .s (.c (.sl 43 0 0 3)), [(43, [])], xisF [(37, cx 0 1)]⟩
theorem kd6_0_ok : kd6_0.ok od5 102 = true := by kernel_rfl
noncomputable def kd6_1 : Kp := ⟨[paA 5 4], app (mmC 0 0 pd1 td1) ([(2, xsC 10 xd0), (3, xsC 13 xd1)]), 4, 16, .s (.c (.sl 78 0 1 3)), [(78, xsC 93 [⟨0, 3, [(16, 1), (4096, 2)]⟩])], xisF [(77, cx 0 1), (0, ⟨0, 3, [(16, 1), (4096, 2)]⟩)]⟩
theorem kd6_1_ok : kd6_1.ok od5 102 = true := by kernel_rfl
noncomputable def od6 : Orcs := withK 102 [kd6_0, kd6_1] od5
theorem od6_ok : OkP parCs11 od6 := withK_ok od5_ok ⟨kd6_0_ok, kd6_1_ok, trivial⟩
end Go.Proofs.YtcblajhfehadaaaGreat
