/-
 Shared texts (Z60).
-/
import Derived.Test.YtcblajhfehadaaaGreatZ37
namespace Go.Proofs.YtcblajhfehadaaaGreat
open Go.RowKit Go.Joins Go.SX
set_option maxRecDepth 1000000
noncomputable def xg0 : List X := [⟨0, 2, [(1, 1)]⟩, ⟨0, 2, [(256, 1)]⟩, ⟨0, 2, [(65536, 1)]⟩]
noncomputable def xg1 : List X := [⟨0, 1, [(16, 1)]⟩, ⟨0, 1, [(4096, 1)]⟩, ⟨0, 1, [(1048576, 1)]⟩]
noncomputable def kg5_0 : Kp := ⟨[paA 8 6], app (mmC 0 0 pg0 tg0) ([(2, xsC 16 xg0), (3, xsC 19 xg1)]), 4, 22, .s (.agg ([.nsl])), [], xisF []⟩
theorem kg5_0_ok : kg5_0.ok og4 100 = true := by kernel_rfl
noncomputable def kg5_1 : Kp := ⟨[paA 9 8], app (mmC 0 0 pg1 tg1) ([(2, xsC 18 xg0), (3, xsC 21 xg1)]), 4, 24, .s (.agg ([.sl 186 0 1 2])), [(186, [.sl 182 0 1 1, .sl 184 0 1 3]), (182, [.int 0]), (184, xsC 661 [⟨0, 1, [(1, 2)]⟩])], xisF [(637, cx 0 1), (0, ⟨0, 1, [(1, 2)]⟩)]⟩
theorem kg5_1_ok : kg5_1.ok og4 100 = true := by kernel_rfl
noncomputable def kg5_2 : Kp := ⟨[paA 9 8], app (mmC 0 0 pg2 tg2) ([(2, xsC 18 xg0), (3, xsC 21 xg1)]), 4, 24, .s (.agg ([.sl 186 0 1 2])), [(186, [.sl 182 0 1 1, .sl 184 0 1 3]), (182, [.int 0]), (184, xsC 661 [⟨0, 1, [(1, 1), (256, 1)]⟩])], xisF [(637, cx 0 1), (0, ⟨0, 1, [(1, 1), (256, 1)]⟩)]⟩
theorem kg5_2_ok : kg5_2.ok og4 100 = true := by kernel_rfl
noncomputable def kg5_3 : Kp := ⟨[paA 9 8], app (mmC 0 0 pg3 tg3) ([(2, xsC 18 xg0), (3, xsC 21 xg1)]), 4, 24, .s (.agg ([.sl 186 0 1 2])), [(186, [.sl 182 0 1 1, .sl 184 0 1 3]), (182, [.int 0]), (184, xsC 661 [⟨0, 1, [(1, 1), (65536, 1)]⟩])], xisF [(637, cx 0 1), (0, ⟨0, 1, [(1, 1), (65536, 1)]⟩)]⟩
theorem kg5_3_ok : kg5_3.ok og4 100 = true := by kernel_rfl
noncomputable def kg5_4 : Kp := ⟨[paA 10 10], app (mmC 0 0 pg4 tg4) ([(2, xsC 20 xg0), (3, xsC 23 xg1)]), 4, 26, .s (.agg ([.sl 336 0 2 2])), [(336, [.sl 322 0 1 1, .sl 324 0 1 3, .sl 332 0 1 1, .sl 334 0 1 3]), (322, [.int 0]), (324, xsC 1300 [⟨0, 1, [(1, 2)]⟩]), (332, [.int 1]), (334, xsC 1301 [⟨0, 1, [(1, 1), (256, 1)]⟩])], xisF [(1274, cx 0 1), (0, ⟨0, 1, [(1, 2)]⟩), (0, ⟨0, 1, [(1, 1), (256, 1)]⟩)]⟩
theorem kg5_4_ok : kg5_4.ok og4 100 = true := by kernel_rfl
noncomputable def kg5_5 : Kp := ⟨[paA 10 10], app (mmC 0 0 pg5 tg5) ([(2, xsC 20 xg0), (3, xsC 23 xg1)]), 4, 26, .s (.agg ([.sl 336 0 2 2])), [(336, [.sl 322 0 1 1, .sl 324 0 1 3, .sl 332 0 1 1, .sl 334 0 1 3]), (322, [.int 0]), (324, xsC 1300 [⟨0, 1, [(1, 2)]⟩]), (332, [.int 1]), (334, xsC 1301 [⟨0, 1, [(1, 1), (65536, 1)]⟩])], xisF [(1274, cx 0 1), (0, ⟨0, 1, [(1, 2)]⟩), (0, ⟨0, 1, [(1, 1), (65536, 1)]⟩)]⟩
theorem kg5_5_ok : kg5_5.ok og4 100 = true := by kernel_rfl
noncomputable def kg5_6 : Kp := ⟨[paA 10 10], app (mmC 0 0 pg6 tg6) ([(2, xsC 20 xg0), (3, xsC 23 xg1)]), 4, 26, .s (.agg ([.sl 336 0 2 2])), [(336, [.sl 322 0 1 1, .sl 324 0 1 3, .sl 332 0 1 1, .sl 334 0 1 3]), (322, [.int 0]), (324, xsC 1300 [⟨0, 1, [(1, 1), (256, 1)]⟩]), (332, [.int 1]), (334, xsC 1301 [⟨0, 1, [(1, 1), (65536, 1)]⟩])], xisF [(1274, cx 0 1), (0, ⟨0, 1, [(1, 1), (256, 1)]⟩), (0, ⟨0, 1, [(1, 1), (65536, 1)]⟩)]⟩
theorem kg5_6_ok : kg5_6.ok og4 100 = true := by kernel_rfl
noncomputable def kg5_7 : Kp := ⟨[paA 11 12], app (mmC 0 0 pg7 tg7) ([(2, xsC 22 xg0), (3, xsC 25 xg1)]), 4, 28, .s (.agg ([.sl 488 0 3 2])), [(488, [.sl 462 0 1 1, .sl 464 0 1 3, .sl 473 0 1 1, .sl 475 0 1 3, .sl 484 0 1 1, .sl 486 0 1 3]), (462, [.int 0]), (464, xsC 1939 [⟨0, 1, [(1, 2)]⟩]), (473, [.int 1]), (475, xsC 1940 [⟨0, 1, [(1, 1), (256, 1)]⟩]), (484, [.int 2]), (486, xsC 1941 [⟨0, 1, [(1, 1), (65536, 1)]⟩])], xisF [(1911, cx 0 1), (0, ⟨0, 1, [(1, 2)]⟩), (0, ⟨0, 1, [(1, 1), (256, 1)]⟩), (0, ⟨0, 1, [(1, 1), (65536, 1)]⟩)]⟩
theorem kg5_7_ok : kg5_7.ok og4 100 = true := by kernel_rfl
noncomputable def og5 : Orcs := withK 100 [kg5_0, kg5_1, kg5_2, kg5_3, kg5_4, kg5_5, kg5_6, kg5_7] og4
theorem og5_ok : OkP parCs20 og5 := withK_ok og4_ok ⟨kg5_0_ok, kg5_1_ok, kg5_2_ok, kg5_3_ok, kg5_4_ok, kg5_5_ok, kg5_6_ok, kg5_7_ok, trivial⟩
noncomputable def kg6_0 : Kp := ⟨[paA 8 6], app (mmC 0 0 pg0 tg0) ([(2, xsC 16 xg0), (3, xsC 19 xg1)]), 4, 22, .s (.c (.sl 107 0 0 3)), [(107, [])], xisF [(109, cx 0 1)]⟩
theorem kg6_0_ok : kg6_0.ok og5 102 = true := by kernel_rfl
noncomputable def kg6_1 : Kp := ⟨[paA 9 8], app (mmC 0 0 pg1 tg1) ([(2, xsC 18 xg0), (3, xsC 21 xg1)]), 4, 24, .s (.c (.sl 142 0 1 3)), [(142, xsC 173 [⟨0, 3, [(16, 1)]⟩])], xisF [(149, cx 0 1), (0, ⟨0, 3, [(16, 1)]⟩)]⟩
theorem kg6_1_ok : kg6_1.ok og5 102 = true := by kernel_rfl
noncomputable def kg6_2 : Kp := ⟨[paA 9 8], app (mmC 0 0 pg2 tg2) ([(2, xsC 18 xg0), (3, xsC 21 xg1)]), 4, 24, .s (.c (.sl 142 0 1 3)), [(142, xsC 173 [⟨0, 6, [(16, 1), (4096, 1)]⟩])], xisF [(149, cx 0 1), (0, ⟨0, 6, [(16, 1), (4096, 1)]⟩)]⟩
theorem kg6_2_ok : kg6_2.ok og5 102 = true := by kernel_rfl
noncomputable def kg6_3 : Kp := ⟨[paA 9 8], app (mmC 0 0 pg3 tg3) ([(2, xsC 18 xg0), (3, xsC 21 xg1)]), 4, 24, .s (.c (.sl 142 0 1 3)), [(142, xsC 173 [⟨0, 6, [(16, 1), (1048576, 1)]⟩])], xisF [(149, cx 0 1), (0, ⟨0, 6, [(16, 1), (1048576, 1)]⟩)]⟩
theorem kg6_3_ok : kg6_3.ok og5 102 = true := by kernel_rfl
noncomputable def kg6_4 : Kp := ⟨[paA 10 10], app (mmC 0 0 pg4 tg4) ([(2, xsC 20 xg0), (3, xsC 23 xg1)]), 4, 26, .s (.c (.sl 177 0 2 3)), [(177, xsC 215 [⟨0, 3, [(16, 1)]⟩, ⟨0, 6, [(16, 1), (4096, 1)]⟩])], xisF [(189, cx 0 1), (0, ⟨0, 3, [(16, 1)]⟩), (0, ⟨0, 6, [(16, 1), (4096, 1)]⟩)]⟩
theorem kg6_4_ok : kg6_4.ok og5 102 = true := by kernel_rfl
noncomputable def kg6_5 : Kp := ⟨[paA 10 10], app (mmC 0 0 pg5 tg5) ([(2, xsC 20 xg0), (3, xsC 23 xg1)]), 4, 26, .s (.c (.sl 177 0 2 3)), [(177, xsC 215 [⟨0, 3, [(16, 1)]⟩, ⟨0, 6, [(16, 1), (1048576, 1)]⟩])], xisF [(189, cx 0 1), (0, ⟨0, 3, [(16, 1)]⟩), (0, ⟨0, 6, [(16, 1), (1048576, 1)]⟩)]⟩
theorem kg6_5_ok : kg6_5.ok og5 102 = true := by kernel_rfl
noncomputable def kg6_6 : Kp := ⟨[paA 10 10], app (mmC 0 0 pg6 tg6) ([(2, xsC 20 xg0), (3, xsC 23 xg1)]), 4, 26, .s (.c (.sl 177 0 2 3)), [(177, xsC 215 [⟨0, 6, [(16, 1), (4096, 1)]⟩, ⟨0, 6, [(16, 1), (1048576, 1)]⟩])], xisF [(189, cx 0 1), (0, ⟨0, 6, [(16, 1), (4096, 1)]⟩), (0, ⟨0, 6, [(16, 1), (1048576, 1)]⟩)]⟩
theorem kg6_6_ok : kg6_6.ok og5 102 = true := by kernel_rfl
noncomputable def xg2 : List X := [⟨0, 3, [(16, 1)]⟩, ⟨0, 6, [(16, 1), (4096, 1)]⟩, ⟨0, 6, [(16, 1), (1048576, 1)]⟩]
noncomputable def kg6_7 : Kp := ⟨[paA 11 12], app (mmC 0 0 pg7 tg7) ([(2, xsC 22 xg0), (3, xsC 25 xg1)]), 4, 28, .s (.c (.sl 212 0 3 3)), [(212, xsC 257 xg2)], xisF [(229, cx 0 1), (0, ⟨0, 3, [(16, 1)]⟩), (0, ⟨0, 6, [(16, 1), (4096, 1)]⟩), (0, ⟨0, 6, [(16, 1), (1048576, 1)]⟩)]⟩
theorem kg6_7_ok : kg6_7.ok og5 102 = true := by kernel_rfl
noncomputable def og6 : Orcs := withK 102 [kg6_0, kg6_1, kg6_2, kg6_3, kg6_4, kg6_5, kg6_6, kg6_7] og5
theorem og6_ok : OkP parCs20 og6 := withK_ok og5_ok ⟨kg6_0_ok, kg6_1_ok, kg6_2_ok, kg6_3_ok, kg6_4_ok, kg6_5_ok, kg6_6_ok, kg6_7_ok, trivial⟩
end Go.Proofs.YtcblajhfehadaaaGreat
