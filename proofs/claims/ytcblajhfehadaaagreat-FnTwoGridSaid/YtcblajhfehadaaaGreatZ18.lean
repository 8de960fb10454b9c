/-
 Shared texts (Z18).
-/
import Derived.Test.YtcblajhfehadaaaGreatZ17
namespace Go.Proofs.YtcblajhfehadaaaGreat
open Go.RowKit Go.Joins Go.SX
set_option maxRecDepth 1000000
noncomputable def pa11 : List (Int × Nat) := [(0, 1), (0, 1), (2, 1), (0, 1), (2, 1), (2, 1), (0, 1), (2, 1), (1, 1), (1, 1), (1, 1), (0, 1), (2, 1), (1, 1), (1, 1), (2, 1)]
noncomputable def ta11 : List C := intsC [5, 4, 0, 0, 1, 5, 1, 4, 0, 1, 6, 4, 1, 0, 1, 6, 2, 4, 0, 1, 7, 4, 2, 1, 1, 7, 3, 4, 1, 1, 4, 3, 0, 0, 0]
noncomputable def ka0_11 : Kp := ⟨[maA 0 8 7], mmC 0 0 pa11 ta11, 2, 16, .s (.c (.bool true)), [], xisF []⟩
theorem ka0_11_ok : ka0_11.ok ba 58 = true := by kernel_rfl
noncomputable def pa12 : List (Int × Nat) := [(0, 1), (0, 1), (2, 1), (0, 1), (2, 1), (2, 1), (0, 1), (2, 1), (1, 1), (1, 1), (1, 1), (0, 1), (0, 1), (1, 1), (2, 1), (1, 1)]
noncomputable def ta12 : List C := intsC [5, 4, 0, 0, 1, 5, 1, 4, 0, 1, 7, 4, 1, 0, 1, 7, 2, 4, 0, 1, 4, 2, 3, 1, 0, 6, 4, 3, 0, 1, 6, 0, 4, 0, 1]
noncomputable def ka0_12 : Kp := ⟨[maA 0 8 7], mmC 0 0 pa12 ta12, 2, 16, .s (.c (.bool true)), [], xisF []⟩
theorem ka0_12_ok : ka0_12.ok ba 58 = true := by kernel_rfl
noncomputable def pa13 : List (Int × Nat) := [(0, 1), (0, 1), (2, 1), (0, 1), (2, 1), (2, 1), (0, 1), (2, 1), (1, 1), (1, 1), (1, 1), (0, 1), (0, 1), (1, 1), (1, 1), (2, 1)]
noncomputable def ta13 : List C := intsC [5, 4, 0, 0, 1, 5, 1, 4, 0, 1, 4, 1, 2, 0, 0, 7, 4, 2, 1, 1, 7, 3, 4, 1, 1, 6, 4, 3, 0, 1, 6, 0, 4, 0, 1]
noncomputable def ka0_13 : Kp := ⟨[maA 0 8 7], mmC 0 0 pa13 ta13, 2, 16, .s (.c (.bool true)), [], xisF []⟩
theorem ka0_13_ok : ka0_13.ok ba 58 = true := by kernel_rfl
noncomputable def pa14 : List (Int × Nat) := [(0, 1), (0, 1), (2, 1), (0, 1), (2, 1), (2, 1), (0, 1), (2, 1), (1, 1), (1, 1), (0, 1), (1, 1), (2, 1), (1, 1), (1, 1), (2, 1)]
noncomputable def ta14 : List C := intsC [4, 0, 1, 0, 0, 6, 4, 1, 0, 1, 6, 2, 4, 0, 1, 7, 4, 2, 1, 1, 7, 3, 4, 1, 1, 5, 4, 3, 0, 1, 5, 0, 4, 0, 1]
noncomputable def ka0_14 : Kp := ⟨[maA 0 8 7], mmC 0 0 pa14 ta14, 2, 16, .s (.c (.bool true)), [], xisF []⟩
theorem ka0_14_ok : ka0_14.ok ba 58 = true := by kernel_rfl
noncomputable def oa0 : Orcs := withK 58 [ka0_0, ka0_1, ka0_2, ka0_3, ka0_4, ka0_5, ka0_6, ka0_7, ka0_8, ka0_9, ka0_10, ka0_11, ka0_12, ka0_13, ka0_14] ba
theorem oa0_ok : OkP parCs00 oa0 := withK_ok (orcG_ok parCs00_ok ctsCs00) ⟨ka0_0_ok, ka0_1_ok, ka0_2_ok, ka0_3_ok, ka0_4_ok, ka0_5_ok, ka0_6_ok, ka0_7_ok, ka0_8_ok, ka0_9_ok, ka0_10_ok, ka0_11_ok, ka0_12_ok, ka0_13_ok, ka0_14_ok, trivial⟩
noncomputable def ta15 : List C := intsC [0, 1, 0, -1, 0, 3, -1, 3, 0, 4, 3, 0, 1, 2, 1, -1, 1, 4, 0, 1, 2, 3, 2, -1, 2, 4, 1, 2, 3, 4, 2, 3]
noncomputable def ka1_0 : Kp := ⟨[maA 0 5 4], mmC 0 0 pa0 ta0, 2, 10, .s (.c (.sl 144 0 8 4)), [(144, ta15)], xisF []⟩
theorem ka1_0_ok : ka1_0.ok oa0 138 = true := by kernel_rfl
noncomputable def ta16 : List C := intsC [0, 3, -1, 4, 0, 4, 4, 0, 0, 5, 0, -1, 1, 2, 2, -1, 1, 4, 1, 2, 1, 5, -1, 1, 2, 3, 3, -1, 2, 4, 2, 3, 3, 4, 3, 4, 4, 5, 1, 0]
noncomputable def ka1_1 : Kp := ⟨[maA 0 6 5], mmC 0 0 pa1 ta1, 2, 12, .s (.c (.sl 209 0 10 4)), [(209, ta16)], xisF []⟩
theorem ka1_1_ok : ka1_1.ok oa0 138 = true := by kernel_rfl
noncomputable def ta17 : List C := intsC [0, 1, 0, -1, 0, 3, -1, 4, 0, 4, 4, 0, 1, 4, 0, 1, 1, 5, 1, -1, 2, 3, 3, -1, 2, 4, 2, 3, 2, 5, -1, 2, 3, 4, 3, 4, 4, 5, 2, 1]
noncomputable def ka1_2 : Kp := ⟨[maA 0 6 5], mmC 0 0 pa2 ta2, 2, 12, .s (.c (.sl 203 0 10 4)), [(203, ta17)], xisF []⟩
theorem ka1_2_ok : ka1_2.ok oa0 138 = true := by kernel_rfl
noncomputable def ta18 : List C := intsC [0, 1, 0, -1, 0, 3, -1, 4, 0, 4, 4, 0, 1, 2, 1, -1, 1, 4, 0, 1, 2, 4, 1, 2, 2, 5, 2, -1, 3, 4, 3, 4, 3, 5, -1, 3, 4, 5, 3, 2]
noncomputable def ka1_3 : Kp := ⟨[maA 0 6 5], mmC 0 0 pa3 ta3, 2, 12, .s (.c (.sl 200 0 10 4)), [(200, ta18)], xisF []⟩
theorem ka1_3_ok : ka1_3.ok oa0 138 = true := by kernel_rfl
noncomputable def ta19 : List C := intsC [0, 1, 0, -1, 0, 4, 4, 0, 0, 5, -1, 4, 1, 2, 1, -1, 1, 4, 0, 1, 2, 3, 2, -1, 2, 4, 1, 2, 3, 4, 2, 3, 3, 5, 3, -1, 4, 5, 4, 3]
noncomputable def ka1_4 : Kp := ⟨[maA 0 6 5], mmC 0 0 pa4 ta4, 2, 12, .s (.c (.sl 177 0 10 4)), [(177, ta19)], xisF []⟩
theorem ka1_4_ok : ka1_4.ok oa0 138 = true := by kernel_rfl
noncomputable def ta20 : List C := intsC [0, 3, -1, 5, 0, 4, 5, 0, 0, 5, 0, -1, 1, 4, 1, 2, 1, 5, -1, 1, 1, 6, 2, -1, 2, 3, 4, -1, 2, 4, 3, 4, 2, 6, -1, 3, 3, 4, 4, 5, 4, 5, 1, 0, 4, 6, 3, 2]
noncomputable def ka1_5 : Kp := ⟨[maA 0 7 6], mmC 0 0 pa5 ta5, 2, 14, .s (.c (.sl 265 0 12 4)), [(265, ta20)], xisF []⟩
theorem ka1_5_ok : ka1_5.ok oa0 138 = true := by kernel_rfl
noncomputable def ta21 : List C := intsC [0, 3, -1, 5, 0, 4, 5, 0, 0, 5, 0, -1, 1, 2, 2, -1, 1, 4, 1, 2, 1, 5, -1, 1, 2, 4, 2, 3, 2, 6, 3, -1, 3, 4, 4, 5, 3, 6, -1, 4, 4, 5, 1, 0, 4, 6, 4, 3]
noncomputable def ka1_6 : Kp := ⟨[maA 0 7 6], mmC 0 0 pa6 ta6, 2, 14, .s (.c (.sl 265 0 12 4)), [(265, ta21)], xisF []⟩
theorem ka1_6_ok : ka1_6.ok oa0 138 = true := by kernel_rfl
noncomputable def ta22 : List C := intsC [0, 4, 5, 0, 0, 5, 0, -1, 0, 6, -1, 5, 1, 2, 2, -1, 1, 4, 1, 2, 1, 5, -1, 1, 2, 3, 3, -1, 2, 4, 2, 3, 3, 4, 3, 4, 3, 6, 4, -1, 4, 5, 1, 0, 4, 6, 5, 4]
noncomputable def ka1_7 : Kp := ⟨[maA 0 7 6], mmC 0 0 pa7 ta7, 2, 14, .s (.c (.sl 242 0 12 4)), [(242, ta22)], xisF []⟩
theorem ka1_7_ok : ka1_7.ok oa0 138 = true := by kernel_rfl
noncomputable def ta23 : List C := intsC [0, 1, 0, -1, 0, 3, -1, 5, 0, 4, 5, 0, 1, 4, 0, 1, 1, 5, 1, -1, 2, 4, 2, 3, 2, 5, -1, 2, 2, 6, 3, -1, 3, 4, 4, 5, 3, 6, -1, 4, 4, 5, 2, 1, 4, 6, 4, 3]
noncomputable def ka1_8 : Kp := ⟨[maA 0 7 6], mmC 0 0 pa8 ta8, 2, 14, .s (.c (.sl 259 0 12 4)), [(259, ta23)], xisF []⟩
theorem ka1_8_ok : ka1_8.ok oa0 138 = true := by kernel_rfl
noncomputable def ta24 : List C := intsC [0, 1, 0, -1, 0, 4, 5, 0, 0, 5, -1, 5, 1, 4, 0, 1, 1, 6, 1, -1, 2, 3, 3, -1, 2, 4, 2, 3, 2, 6, -1, 2, 3, 4, 3, 4, 3, 5, 4, -1, 4, 5, 5, 4, 4, 6, 2, 1]
noncomputable def ka1_9 : Kp := ⟨[maA 0 7 6], mmC 0 0 pa9 ta9, 2, 14, .s (.c (.sl 239 0 12 4)), [(239, ta24)], xisF []⟩
theorem ka1_9_ok : ka1_9.ok oa0 138 = true := by kernel_rfl
noncomputable def ta25 : List C := intsC [0, 1, 0, -1, 0, 4, 5, 0, 0, 5, -1, 5, 1, 2, 1, -1, 1, 4, 0, 1, 2, 4, 1, 2, 2, 6, 2, -1, 3, 4, 3, 4, 3, 5, 4, -1, 3, 6, -1, 3, 4, 5, 5, 4, 4, 6, 3, 2]
noncomputable def ka1_10 : Kp := ⟨[maA 0 7 6], mmC 0 0 pa10 ta10, 2, 14, .s (.c (.sl 236 0 12 4)), [(236, ta25)], xisF []⟩
theorem ka1_10_ok : ka1_10.ok oa0 138 = true := by kernel_rfl
noncomputable def ta26 : List C := intsC [0, 3, -1, 6, 0, 4, 6, 0, 0, 5, 0, -1, 1, 4, 1, 2, 1, 5, -1, 1, 1, 6, 2, -1, 2, 4, 3, 4, 2, 6, -1, 3, 2, 7, 4, -1, 3, 4, 5, 6, 3, 7, -1, 5, 4, 5, 1, 0, 4, 6, 3, 2, 4, 7, 5, 4]
noncomputable def ka1_11 : Kp := ⟨[maA 0 8 7], mmC 0 0 pa11 ta11, 2, 16, .s (.c (.sl 318 0 14 4)), [(318, ta26)], xisF []⟩
theorem ka1_11_ok : ka1_11.ok oa0 138 = true := by kernel_rfl
noncomputable def ta27 : List C := intsC [0, 4, 6, 0, 0, 5, 0, -1, 0, 6, -1, 6, 1, 4, 1, 2, 1, 5, -1, 1, 1, 7, 2, -1, 2, 3, 4, -1, 2, 4, 3, 4, 2, 7, -1, 3, 3, 4, 4, 5, 3, 6, 5, -1, 4, 5, 1, 0, 4, 6, 6, 5, 4, 7, 3, 2]
noncomputable def ka1_12 : Kp := ⟨[maA 0 8 7], mmC 0 0 pa12 ta12, 2, 16, .s (.c (.sl 307 0 14 4)), [(307, ta27)], xisF []⟩
theorem ka1_12_ok : ka1_12.ok oa0 138 = true := by kernel_rfl
noncomputable def ta28 : List C := intsC [0, 4, 6, 0, 0, 5, 0, -1, 0, 6, -1, 6, 1, 2, 2, -1, 1, 4, 1, 2, 1, 5, -1, 1, 2, 4, 2, 3, 2, 7, 3, -1, 3, 4, 4, 5, 3, 6, 5, -1, 3, 7, -1, 4, 4, 5, 1, 0, 4, 6, 6, 5, 4, 7, 4, 3]
noncomputable def ka1_13 : Kp := ⟨[maA 0 8 7], mmC 0 0 pa13 ta13, 2, 16, .s (.c (.sl 307 0 14 4)), [(307, ta28)], xisF []⟩
theorem ka1_13_ok : ka1_13.ok oa0 138 = true := by kernel_rfl
noncomputable def ta29 : List C := intsC [0, 1, 0, -1, 0, 4, 6, 0, 0, 5, -1, 6, 1, 4, 0, 1, 1, 6, 1, -1, 2, 4, 2, 3, 2, 6, -1, 2, 2, 7, 3, -1, 3, 4, 4, 5, 3, 5, 5, -1, 3, 7, -1, 4, 4, 5, 6, 5, 4, 6, 2, 1, 4, 7, 4, 3]
noncomputable def ka1_14 : Kp := ⟨[maA 0 8 7], mmC 0 0 pa14 ta14, 2, 16, .s (.c (.sl 301 0 14 4)), [(301, ta29)], xisF []⟩
theorem ka1_14_ok : ka1_14.ok oa0 138 = true := by kernel_rfl
noncomputable def oa1 : Orcs := withK 138 [ka1_0, ka1_1, ka1_2, ka1_3, ka1_4, ka1_5, ka1_6, ka1_7, ka1_8, ka1_9, ka1_10, ka1_11, ka1_12, ka1_13, ka1_14] oa0
theorem oa1_ok : OkP parCs00 oa1 := withK_ok oa0_ok ⟨ka1_0_ok, ka1_1_ok, ka1_2_ok, ka1_3_ok, ka1_4_ok, ka1_5_ok, ka1_6_ok, ka1_7_ok, ka1_8_ok, ka1_9_ok, ka1_10_ok, ka1_11_ok, ka1_12_ok, ka1_13_ok, ka1_14_ok, trivial⟩
noncomputable def ka2_0 : Kp := ⟨[maA 0 5 4, .s (.c (.bool false))], mmC 0 0 pa0 ta0, 2, 10, .s (.c (.sl 15 0 1 1)), [(15, [.int 4])], xisF []⟩
theorem ka2_0_ok : ka2_0.ok oa1 59 = true := by kernel_rfl
noncomputable def ka2_1 : Kp := ⟨[maA 0 6 5, .s (.c (.bool false))], mmC 0 0 pa1 ta1, 2, 12, .s (.c (.sl 17 0 1 1)), [(17, [.int 4])], xisF []⟩
theorem ka2_1_ok : ka2_1.ok oa1 59 = true := by kernel_rfl
noncomputable def ka2_2 : Kp := ⟨[maA 0 6 5, .s (.c (.bool false))], mmC 0 0 pa2 ta2, 2, 12, .s (.c (.sl 17 0 1 1)), [(17, [.int 4])], xisF []⟩
theorem ka2_2_ok : ka2_2.ok oa1 59 = true := by kernel_rfl
noncomputable def ka2_3 : Kp := ⟨[maA 0 6 5, .s (.c (.bool false))], mmC 0 0 pa3 ta3, 2, 12, .s (.c (.sl 17 0 1 1)), [(17, [.int 4])], xisF []⟩
theorem ka2_3_ok : ka2_3.ok oa1 59 = true := by kernel_rfl
noncomputable def ka2_4 : Kp := ⟨[maA 0 6 5, .s (.c (.bool false))], mmC 0 0 pa4 ta4, 2, 12, .s (.c (.sl 17 0 1 1)), [(17, [.int 4])], xisF []⟩
theorem ka2_4_ok : ka2_4.ok oa1 59 = true := by kernel_rfl
noncomputable def ka2_5 : Kp := ⟨[maA 0 7 6, .s (.c (.bool false))], mmC 0 0 pa5 ta5, 2, 14, .s (.c (.sl 19 0 1 1)), [(19, [.int 4])], xisF []⟩
theorem ka2_5_ok : ka2_5.ok oa1 59 = true := by kernel_rfl
noncomputable def ka2_6 : Kp := ⟨[maA 0 7 6, .s (.c (.bool false))], mmC 0 0 pa6 ta6, 2, 14, .s (.c (.sl 19 0 1 1)), [(19, [.int 4])], xisF []⟩
theorem ka2_6_ok : ka2_6.ok oa1 59 = true := by kernel_rfl
noncomputable def ka2_7 : Kp := ⟨[maA 0 7 6, .s (.c (.bool false))], mmC 0 0 pa7 ta7, 2, 14, .s (.c (.sl 19 0 1 1)), [(19, [.int 4])], xisF []⟩
theorem ka2_7_ok : ka2_7.ok oa1 59 = true := by kernel_rfl
noncomputable def ka2_8 : Kp := ⟨[maA 0 7 6, .s (.c (.bool false))], mmC 0 0 pa8 ta8, 2, 14, .s (.c (.sl 19 0 1 1)), [(19, [.int 4])], xisF []⟩
theorem ka2_8_ok : ka2_8.ok oa1 59 = true := by kernel_rfl
noncomputable def ka2_9 : Kp := ⟨[maA 0 7 6, .s (.c (.bool false))], mmC 0 0 pa9 ta9, 2, 14, .s (.c (.sl 19 0 1 1)), [(19, [.int 4])], xisF []⟩
theorem ka2_9_ok : ka2_9.ok oa1 59 = true := by kernel_rfl
noncomputable def ka2_10 : Kp := ⟨[maA 0 7 6, .s (.c (.bool false))], mmC 0 0 pa10 ta10, 2, 14, .s (.c (.sl 19 0 1 1)), [(19, [.int 4])], xisF []⟩
theorem ka2_10_ok : ka2_10.ok oa1 59 = true := by kernel_rfl
noncomputable def ka2_11 : Kp := ⟨[maA 0 8 7, .s (.c (.bool false))], mmC 0 0 pa11 ta11, 2, 16, .s (.c (.sl 21 0 1 1)), [(21, [.int 4])], xisF []⟩
theorem ka2_11_ok : ka2_11.ok oa1 59 = true := by kernel_rfl
noncomputable def ka2_12 : Kp := ⟨[maA 0 8 7, .s (.c (.bool false))], mmC 0 0 pa12 ta12, 2, 16, .s (.c (.sl 21 0 1 1)), [(21, [.int 4])], xisF []⟩
theorem ka2_12_ok : ka2_12.ok oa1 59 = true := by kernel_rfl
noncomputable def ka2_13 : Kp := ⟨[maA 0 8 7, .s (.c (.bool false))], mmC 0 0 pa13 ta13, 2, 16, .s (.c (.sl 21 0 1 1)), [(21, [.int 4])], xisF []⟩
theorem ka2_13_ok : ka2_13.ok oa1 59 = true := by kernel_rfl
noncomputable def ka2_14 : Kp := ⟨[maA 0 8 7, .s (.c (.bool false))], mmC 0 0 pa14 ta14, 2, 16, .s (.c (.sl 21 0 1 1)), [(21, [.int 4])], xisF []⟩
theorem ka2_14_ok : ka2_14.ok oa1 59 = true := by kernel_rfl
noncomputable def oa2 : Orcs := withK 59 [ka2_0, ka2_1, ka2_2, ka2_3, ka2_4, ka2_5, ka2_6, ka2_7, ka2_8, ka2_9, ka2_10, ka2_11, ka2_12, ka2_13, ka2_14] oa1
theorem oa2_ok : OkP parCs00 oa2 := withK_ok oa1_ok ⟨ka2_0_ok, ka2_1_ok, ka2_2_ok, ka2_3_ok, ka2_4_ok, ka2_5_ok, ka2_6_ok, ka2_7_ok, ka2_8_ok, ka2_9_ok, ka2_10_ok, ka2_11_ok, ka2_12_ok, ka2_13_ok, ka2_14_ok, trivial⟩
noncomputable def ka3_0 : Kp := ⟨[maA 0 5 4, .s (.c (.sl 2 0 0 1))], app (mmC 0 0 pa0 ta0) ([(2, [])]), 3, 10, .s (.agg ([.sl 194 0 5 6, .sl 271 0 4 5])), [(194, ptsC 10 pa0), (271, ta0)], xpF [(0, 10)] pa0⟩
theorem ka3_0_ok : ka3_0.ok oa2 154 = true := by kernel_rfl
noncomputable def ka3_1 : Kp := ⟨[maA 0 5 4, .s (.c (.sl 2 0 1 1))], app (mmC 0 0 pa0 ta0) ([(2, [.int 0])]), 3, 10, .s (.agg ([.sl 173 0 6 6, .sl 284 0 5 5])), [(173, tpC [(10, 10), (23, 2)] pa1), (284, ta1)], xpF [(0, 10), (3, 2)] pa1⟩
theorem ka3_1_ok : ka3_1.ok oa2 154 = true := by kernel_rfl
noncomputable def ka3_2 : Kp := ⟨[maA 0 5 4, .s (.c (.sl 2 0 1 1))], app (mmC 0 0 pa0 ta0) ([(2, [.int 3])]), 3, 10, .s (.agg ([.sl 173 0 6 6, .sl 284 0 5 5])), [(173, tpC [(10, 10), (23, 2)] pa2), (284, ta2)], xpF [(0, 10), (3, 2)] pa2⟩
theorem ka3_2_ok : ka3_2.ok oa2 154 = true := by kernel_rfl
noncomputable def ka3_3 : Kp := ⟨[maA 0 5 4, .s (.c (.sl 2 0 1 1))], app (mmC 0 0 pa0 ta0) ([(2, [.int 5])]), 3, 10, .s (.agg ([.sl 173 0 6 6, .sl 284 0 5 5])), [(173, tpC [(10, 10), (23, 2)] pa3), (284, ta3)], xpF [(0, 10), (3, 2)] pa3⟩
theorem ka3_3_ok : ka3_3.ok oa2 154 = true := by kernel_rfl
noncomputable def ka3_4 : Kp := ⟨[maA 0 5 4, .s (.c (.sl 2 0 1 1))], app (mmC 0 0 pa0 ta0) ([(2, [.int 1])]), 3, 10, .s (.agg ([.sl 173 0 6 6, .sl 284 0 5 5])), [(173, tpC [(10, 10), (23, 2)] pa4), (284, ta4)], xpF [(0, 10), (3, 2)] pa4⟩
theorem ka3_4_ok : ka3_4.ok oa2 154 = true := by kernel_rfl
noncomputable def ka3_5 : Kp := ⟨[maA 0 5 4, .s (.c (.sl 2 0 2 1))], app (mmC 0 0 pa0 ta0) ([(2, [.int 0, .int 3])]), 3, 10, .s (.agg ([.sl 149 0 7 6, .sl 297 0 6 5])), [(149, tpC [(10, 10), (23, 2), (28, 2)] pa5), (297, ta5)], xpF [(0, 10), (3, 2), (3, 2)] pa5⟩
theorem ka3_5_ok : ka3_5.ok oa2 154 = true := by kernel_rfl
noncomputable def ka3_6 : Kp := ⟨[maA 0 5 4, .s (.c (.sl 2 0 2 1))], app (mmC 0 0 pa0 ta0) ([(2, [.int 0, .int 5])]), 3, 10, .s (.agg ([.sl 149 0 7 6, .sl 297 0 6 5])), [(149, tpC [(10, 10), (23, 2), (28, 2)] pa6), (297, ta6)], xpF [(0, 10), (3, 2), (3, 2)] pa6⟩
theorem ka3_6_ok : ka3_6.ok oa2 154 = true := by kernel_rfl
noncomputable def ka3_7 : Kp := ⟨[maA 0 5 4, .s (.c (.sl 2 0 2 1))], app (mmC 0 0 pa0 ta0) ([(2, [.int 0, .int 1])]), 3, 10, .s (.agg ([.sl 149 0 7 6, .sl 297 0 6 5])), [(149, tpC [(10, 10), (23, 2), (28, 2)] pa7), (297, ta7)], xpF [(0, 10), (3, 2), (3, 2)] pa7⟩
theorem ka3_7_ok : ka3_7.ok oa2 154 = true := by kernel_rfl
noncomputable def ka3_8 : Kp := ⟨[maA 0 5 4, .s (.c (.sl 2 0 2 1))], app (mmC 0 0 pa0 ta0) ([(2, [.int 3, .int 5])]), 3, 10, .s (.agg ([.sl 149 0 7 6, .sl 297 0 6 5])), [(149, tpC [(10, 10), (23, 2), (28, 2)] pa8), (297, ta8)], xpF [(0, 10), (3, 2), (3, 2)] pa8⟩
theorem ka3_8_ok : ka3_8.ok oa2 154 = true := by kernel_rfl
noncomputable def ka3_9 : Kp := ⟨[maA 0 5 4, .s (.c (.sl 2 0 2 1))], app (mmC 0 0 pa0 ta0) ([(2, [.int 1, .int 3])]), 3, 10, .s (.agg ([.sl 149 0 7 6, .sl 297 0 6 5])), [(149, tpC [(10, 10), (23, 2), (28, 2)] pa9), (297, ta9)], xpF [(0, 10), (3, 2), (3, 2)] pa9⟩
theorem ka3_9_ok : ka3_9.ok oa2 154 = true := by kernel_rfl
end Go.Proofs.YtcblajhfehadaaaGreat
