/-
 Shared texts (Z24).
-/
import Derived.Test.YtcblajhfehadaaaGreatZ23
namespace Go.Proofs.YtcblajhfehadaaaGreat
open Go.RowKit Go.Joins Go.SX
set_option maxRecDepth 1000000
noncomputable def pb11 : List (Int × Nat) := [(0, 1), (0, 1), (2, 1), (0, 1), (2, 1), (2, 1), (0, 1), (2, 1), (1, 1), (1, 1), (1, 1), (0, 1), (2, 1), (1, 1), (1, 1), (2, 1)]
noncomputable def tb11 : List C := intsC [5, 4, 0, 0, 1, 5, 1, 4, 0, 1, 6, 4, 1, 0, 1, 6, 2, 4, 0, 1, 7, 4, 2, 1, 1, 7, 3, 4, 1, 1, 4, 3, 0, 1, 0]
noncomputable def kb0_11 : Kp := ⟨[maA 0 8 7], mmC 0 0 pb11 tb11, 2, 16, .s (.c (.bool true)), [], xisF []⟩
theorem kb0_11_ok : kb0_11.ok bb 58 = true := by kernel_rfl
noncomputable def pb12 : List (Int × Nat) := [(0, 1), (0, 1), (2, 1), (0, 1), (2, 1), (2, 1), (0, 1), (2, 1), (1, 1), (1, 1), (1, 1), (0, 1), (0, 1), (1, 1), (2, 1), (1, 1)]
noncomputable def tb12 : List C := intsC [5, 4, 0, 0, 1, 5, 1, 4, 0, 1, 7, 4, 1, 0, 1, 7, 2, 4, 0, 1, 4, 2, 3, 1, 0, 6, 4, 3, 1, 1, 6, 0, 4, 1, 1]
noncomputable def kb0_12 : Kp := ⟨[maA 0 8 7], mmC 0 0 pb12 tb12, 2, 16, .s (.c (.bool true)), [], xisF []⟩
theorem kb0_12_ok : kb0_12.ok bb 58 = true := by kernel_rfl
noncomputable def pb13 : List (Int × Nat) := [(0, 1), (0, 1), (2, 1), (0, 1), (2, 1), (2, 1), (0, 1), (2, 1), (1, 1), (1, 1), (1, 1), (0, 1), (0, 1), (1, 1), (1, 1), (2, 1)]
noncomputable def tb13 : List C := intsC [5, 4, 0, 0, 1, 5, 1, 4, 0, 1, 4, 1, 2, 0, 0, 7, 4, 2, 1, 1, 7, 3, 4, 1, 1, 6, 4, 3, 1, 1, 6, 0, 4, 1, 1]
noncomputable def kb0_13 : Kp := ⟨[maA 0 8 7], mmC 0 0 pb13 tb13, 2, 16, .s (.c (.bool true)), [], xisF []⟩
theorem kb0_13_ok : kb0_13.ok bb 58 = true := by kernel_rfl
noncomputable def pb14 : List (Int × Nat) := [(0, 1), (0, 1), (2, 1), (0, 1), (2, 1), (2, 1), (0, 1), (2, 1), (1, 1), (1, 1), (0, 1), (1, 1), (2, 1), (1, 1), (1, 1), (2, 1)]
noncomputable def tb14 : List C := intsC [4, 0, 1, 0, 0, 6, 4, 1, 0, 1, 6, 2, 4, 0, 1, 7, 4, 2, 1, 1, 7, 3, 4, 1, 1, 5, 4, 3, 1, 1, 5, 0, 4, 1, 1]
noncomputable def kb0_14 : Kp := ⟨[maA 0 8 7], mmC 0 0 pb14 tb14, 2, 16, .s (.c (.bool true)), [], xisF []⟩
theorem kb0_14_ok : kb0_14.ok bb 58 = true := by kernel_rfl
noncomputable def ob0 : Orcs := withK 58 [kb0_0, kb0_1, kb0_2, kb0_3, kb0_4, kb0_5, kb0_6, kb0_7, kb0_8, kb0_9, kb0_10, kb0_11, kb0_12, kb0_13, kb0_14] bb
theorem ob0_ok : OkP parCs01 ob0 := withK_ok (orcG_ok parCs01_ok ctsCs01) ⟨kb0_0_ok, kb0_1_ok, kb0_2_ok, kb0_3_ok, kb0_4_ok, kb0_5_ok, kb0_6_ok, kb0_7_ok, kb0_8_ok, kb0_9_ok, kb0_10_ok, kb0_11_ok, kb0_12_ok, kb0_13_ok, kb0_14_ok, trivial⟩
noncomputable def tb15 : List C := intsC [0, 1, 0, -1, 0, 3, -1, 3, 0, 4, 3, 0, 1, 2, 1, -1, 1, 4, 0, 1, 2, 3, 2, -1, 2, 4, 1, 2, 3, 4, 2, 3]
noncomputable def kb1_0 : Kp := ⟨[maA 0 5 4], mmC 0 0 pb0 tb0, 2, 10, .s (.c (.sl 144 0 8 4)), [(144, tb15)], xisF []⟩
theorem kb1_0_ok : kb1_0.ok ob0 138 = true := by kernel_rfl
noncomputable def tb16 : List C := intsC [0, 3, -1, 4, 0, 4, 4, 0, 0, 5, 0, -1, 1, 2, 2, -1, 1, 4, 1, 2, 1, 5, -1, 1, 2, 3, 3, -1, 2, 4, 2, 3, 3, 4, 3, 4, 4, 5, 1, 0]
noncomputable def kb1_1 : Kp := ⟨[maA 0 6 5], mmC 0 0 pb1 tb1, 2, 12, .s (.c (.sl 209 0 10 4)), [(209, tb16)], xisF []⟩
theorem kb1_1_ok : kb1_1.ok ob0 138 = true := by kernel_rfl
noncomputable def tb17 : List C := intsC [0, 1, 0, -1, 0, 3, -1, 4, 0, 4, 4, 0, 1, 4, 0, 1, 1, 5, 1, -1, 2, 3, 3, -1, 2, 4, 2, 3, 2, 5, -1, 2, 3, 4, 3, 4, 4, 5, 2, 1]
noncomputable def kb1_2 : Kp := ⟨[maA 0 6 5], mmC 0 0 pb2 tb2, 2, 12, .s (.c (.sl 203 0 10 4)), [(203, tb17)], xisF []⟩
theorem kb1_2_ok : kb1_2.ok ob0 138 = true := by kernel_rfl
noncomputable def tb18 : List C := intsC [0, 1, 0, -1, 0, 3, -1, 4, 0, 4, 4, 0, 1, 2, 1, -1, 1, 4, 0, 1, 2, 4, 1, 2, 2, 5, 2, -1, 3, 4, 3, 4, 3, 5, -1, 3, 4, 5, 3, 2]
noncomputable def kb1_3 : Kp := ⟨[maA 0 6 5], mmC 0 0 pb3 tb3, 2, 12, .s (.c (.sl 200 0 10 4)), [(200, tb18)], xisF []⟩
theorem kb1_3_ok : kb1_3.ok ob0 138 = true := by kernel_rfl
noncomputable def tb19 : List C := intsC [0, 1, 0, -1, 0, 4, 4, 0, 0, 5, -1, 4, 1, 2, 1, -1, 1, 4, 0, 1, 2, 3, 2, -1, 2, 4, 1, 2, 3, 4, 2, 3, 3, 5, 3, -1, 4, 5, 4, 3]
noncomputable def kb1_4 : Kp := ⟨[maA 0 6 5], mmC 0 0 pb4 tb4, 2, 12, .s (.c (.sl 177 0 10 4)), [(177, tb19)], xisF []⟩
theorem kb1_4_ok : kb1_4.ok ob0 138 = true := by kernel_rfl
noncomputable def tb20 : List C := intsC [0, 3, -1, 5, 0, 4, 5, 0, 0, 5, 0, -1, 1, 4, 1, 2, 1, 5, -1, 1, 1, 6, 2, -1, 2, 3, 4, -1, 2, 4, 3, 4, 2, 6, -1, 3, 3, 4, 4, 5, 4, 5, 1, 0, 4, 6, 3, 2]
noncomputable def kb1_5 : Kp := ⟨[maA 0 7 6], mmC 0 0 pb5 tb5, 2, 14, .s (.c (.sl 265 0 12 4)), [(265, tb20)], xisF []⟩
theorem kb1_5_ok : kb1_5.ok ob0 138 = true := by kernel_rfl
noncomputable def tb21 : List C := intsC [0, 3, -1, 5, 0, 4, 5, 0, 0, 5, 0, -1, 1, 2, 2, -1, 1, 4, 1, 2, 1, 5, -1, 1, 2, 4, 2, 3, 2, 6, 3, -1, 3, 4, 4, 5, 3, 6, -1, 4, 4, 5, 1, 0, 4, 6, 4, 3]
noncomputable def kb1_6 : Kp := ⟨[maA 0 7 6], mmC 0 0 pb6 tb6, 2, 14, .s (.c (.sl 265 0 12 4)), [(265, tb21)], xisF []⟩
theorem kb1_6_ok : kb1_6.ok ob0 138 = true := by kernel_rfl
noncomputable def tb22 : List C := intsC [0, 4, 5, 0, 0, 5, 0, -1, 0, 6, -1, 5, 1, 2, 2, -1, 1, 4, 1, 2, 1, 5, -1, 1, 2, 3, 3, -1, 2, 4, 2, 3, 3, 4, 3, 4, 3, 6, 4, -1, 4, 5, 1, 0, 4, 6, 5, 4]
noncomputable def kb1_7 : Kp := ⟨[maA 0 7 6], mmC 0 0 pb7 tb7, 2, 14, .s (.c (.sl 242 0 12 4)), [(242, tb22)], xisF []⟩
theorem kb1_7_ok : kb1_7.ok ob0 138 = true := by kernel_rfl
noncomputable def tb23 : List C := intsC [0, 1, 0, -1, 0, 3, -1, 5, 0, 4, 5, 0, 1, 4, 0, 1, 1, 5, 1, -1, 2, 4, 2, 3, 2, 5, -1, 2, 2, 6, 3, -1, 3, 4, 4, 5, 3, 6, -1, 4, 4, 5, 2, 1, 4, 6, 4, 3]
noncomputable def kb1_8 : Kp := ⟨[maA 0 7 6], mmC 0 0 pb8 tb8, 2, 14, .s (.c (.sl 259 0 12 4)), [(259, tb23)], xisF []⟩
theorem kb1_8_ok : kb1_8.ok ob0 138 = true := by kernel_rfl
noncomputable def tb24 : List C := intsC [0, 1, 0, -1, 0, 4, 5, 0, 0, 5, -1, 5, 1, 4, 0, 1, 1, 6, 1, -1, 2, 3, 3, -1, 2, 4, 2, 3, 2, 6, -1, 2, 3, 4, 3, 4, 3, 5, 4, -1, 4, 5, 5, 4, 4, 6, 2, 1]
noncomputable def kb1_9 : Kp := ⟨[maA 0 7 6], mmC 0 0 pb9 tb9, 2, 14, .s (.c (.sl 239 0 12 4)), [(239, tb24)], xisF []⟩
theorem kb1_9_ok : kb1_9.ok ob0 138 = true := by kernel_rfl
noncomputable def tb25 : List C := intsC [0, 1, 0, -1, 0, 4, 5, 0, 0, 5, -1, 5, 1, 2, 1, -1, 1, 4, 0, 1, 2, 4, 1, 2, 2, 6, 2, -1, 3, 4, 3, 4, 3, 5, 4, -1, 3, 6, -1, 3, 4, 5, 5, 4, 4, 6, 3, 2]
noncomputable def kb1_10 : Kp := ⟨[maA 0 7 6], mmC 0 0 pb10 tb10, 2, 14, .s (.c (.sl 236 0 12 4)), [(236, tb25)], xisF []⟩
theorem kb1_10_ok : kb1_10.ok ob0 138 = true := by kernel_rfl
noncomputable def tb26 : List C := intsC [0, 3, -1, 6, 0, 4, 6, 0, 0, 5, 0, -1, 1, 4, 1, 2, 1, 5, -1, 1, 1, 6, 2, -1, 2, 4, 3, 4, 2, 6, -1, 3, 2, 7, 4, -1, 3, 4, 5, 6, 3, 7, -1, 5, 4, 5, 1, 0, 4, 6, 3, 2, 4, 7, 5, 4]
noncomputable def kb1_11 : Kp := ⟨[maA 0 8 7], mmC 0 0 pb11 tb11, 2, 16, .s (.c (.sl 318 0 14 4)), [(318, tb26)], xisF []⟩
theorem kb1_11_ok : kb1_11.ok ob0 138 = true := by kernel_rfl
noncomputable def tb27 : List C := intsC [0, 4, 6, 0, 0, 5, 0, -1, 0, 6, -1, 6, 1, 4, 1, 2, 1, 5, -1, 1, 1, 7, 2, -1, 2, 3, 4, -1, 2, 4, 3, 4, 2, 7, -1, 3, 3, 4, 4, 5, 3, 6, 5, -1, 4, 5, 1, 0, 4, 6, 6, 5, 4, 7, 3, 2]
noncomputable def kb1_12 : Kp := ⟨[maA 0 8 7], mmC 0 0 pb12 tb12, 2, 16, .s (.c (.sl 307 0 14 4)), [(307, tb27)], xisF []⟩
theorem kb1_12_ok : kb1_12.ok ob0 138 = true := by kernel_rfl
noncomputable def tb28 : List C := intsC [0, 4, 6, 0, 0, 5, 0, -1, 0, 6, -1, 6, 1, 2, 2, -1, 1, 4, 1, 2, 1, 5, -1, 1, 2, 4, 2, 3, 2, 7, 3, -1, 3, 4, 4, 5, 3, 6, 5, -1, 3, 7, -1, 4, 4, 5, 1, 0, 4, 6, 6, 5, 4, 7, 4, 3]
noncomputable def kb1_13 : Kp := ⟨[maA 0 8 7], mmC 0 0 pb13 tb13, 2, 16, .s (.c (.sl 307 0 14 4)), [(307, tb28)], xisF []⟩
theorem kb1_13_ok : kb1_13.ok ob0 138 = true := by kernel_rfl
noncomputable def tb29 : List C := intsC [0, 1, 0, -1, 0, 4, 6, 0, 0, 5, -1, 6, 1, 4, 0, 1, 1, 6, 1, -1, 2, 4, 2, 3, 2, 6, -1, 2, 2, 7, 3, -1, 3, 4, 4, 5, 3, 5, 5, -1, 3, 7, -1, 4, 4, 5, 6, 5, 4, 6, 2, 1, 4, 7, 4, 3]
noncomputable def kb1_14 : Kp := ⟨[maA 0 8 7], mmC 0 0 pb14 tb14, 2, 16, .s (.c (.sl 301 0 14 4)), [(301, tb29)], xisF []⟩
theorem kb1_14_ok : kb1_14.ok ob0 138 = true := by kernel_rfl
noncomputable def ob1 : Orcs := withK 138 [kb1_0, kb1_1, kb1_2, kb1_3, kb1_4, kb1_5, kb1_6, kb1_7, kb1_8, kb1_9, kb1_10, kb1_11, kb1_12, kb1_13, kb1_14] ob0
theorem ob1_ok : OkP parCs01 ob1 := withK_ok ob0_ok ⟨kb1_0_ok, kb1_1_ok, kb1_2_ok, kb1_3_ok, kb1_4_ok, kb1_5_ok, kb1_6_ok, kb1_7_ok, kb1_8_ok, kb1_9_ok, kb1_10_ok, kb1_11_ok, kb1_12_ok, kb1_13_ok, kb1_14_ok, trivial⟩
noncomputable def kb2_0 : Kp := ⟨[maA 0 5 4, .s (.c (.bool false))], mmC 0 0 pb0 tb0, 2, 10, .s (.c (.sl 15 0 1 1)), [(15, [.int 4])], xisF []⟩
theorem kb2_0_ok : kb2_0.ok ob1 59 = true := by kernel_rfl
noncomputable def kb2_1 : Kp := ⟨[maA 0 6 5, .s (.c (.bool false))], mmC 0 0 pb1 tb1, 2, 12, .s (.c (.sl 17 0 1 1)), [(17, [.int 4])], xisF []⟩
theorem kb2_1_ok : kb2_1.ok ob1 59 = true := by kernel_rfl
noncomputable def kb2_2 : Kp := ⟨[maA 0 6 5, .s (.c (.bool false))], mmC 0 0 pb2 tb2, 2, 12, .s (.c (.sl 17 0 1 1)), [(17, [.int 4])], xisF []⟩
theorem kb2_2_ok : kb2_2.ok ob1 59 = true := by kernel_rfl
noncomputable def kb2_3 : Kp := ⟨[maA 0 6 5, .s (.c (.bool false))], mmC 0 0 pb3 tb3, 2, 12, .s (.c (.sl 17 0 1 1)), [(17, [.int 4])], xisF []⟩
theorem kb2_3_ok : kb2_3.ok ob1 59 = true := by kernel_rfl
noncomputable def kb2_4 : Kp := ⟨[maA 0 6 5, .s (.c (.bool false))], mmC 0 0 pb4 tb4, 2, 12, .s (.c (.sl 17 0 1 1)), [(17, [.int 4])], xisF []⟩
theorem kb2_4_ok : kb2_4.ok ob1 59 = true := by kernel_rfl
noncomputable def kb2_5 : Kp := ⟨[maA 0 7 6, .s (.c (.bool false))], mmC 0 0 pb5 tb5, 2, 14, .s (.c (.sl 19 0 1 1)), [(19, [.int 4])], xisF []⟩
theorem kb2_5_ok : kb2_5.ok ob1 59 = true := by kernel_rfl
noncomputable def kb2_6 : Kp := ⟨[maA 0 7 6, .s (.c (.bool false))], mmC 0 0 pb6 tb6, 2, 14, .s (.c (.sl 19 0 1 1)), [(19, [.int 4])], xisF []⟩
theorem kb2_6_ok : kb2_6.ok ob1 59 = true := by kernel_rfl
noncomputable def kb2_7 : Kp := ⟨[maA 0 7 6, .s (.c (.bool false))], mmC 0 0 pb7 tb7, 2, 14, .s (.c (.sl 19 0 1 1)), [(19, [.int 4])], xisF []⟩
theorem kb2_7_ok : kb2_7.ok ob1 59 = true := by kernel_rfl
noncomputable def kb2_8 : Kp := ⟨[maA 0 7 6, .s (.c (.bool false))], mmC 0 0 pb8 tb8, 2, 14, .s (.c (.sl 19 0 1 1)), [(19, [.int 4])], xisF []⟩
theorem kb2_8_ok : kb2_8.ok ob1 59 = true := by kernel_rfl
noncomputable def kb2_9 : Kp := ⟨[maA 0 7 6, .s (.c (.bool false))], mmC 0 0 pb9 tb9, 2, 14, .s (.c (.sl 19 0 1 1)), [(19, [.int 4])], xisF []⟩
theorem kb2_9_ok : kb2_9.ok ob1 59 = true := by kernel_rfl
noncomputable def kb2_10 : Kp := ⟨[maA 0 7 6, .s (.c (.bool false))], mmC 0 0 pb10 tb10, 2, 14, .s (.c (.sl 19 0 1 1)), [(19, [.int 4])], xisF []⟩
theorem kb2_10_ok : kb2_10.ok ob1 59 = true := by kernel_rfl
noncomputable def kb2_11 : Kp := ⟨[maA 0 8 7, .s (.c (.bool false))], mmC 0 0 pb11 tb11, 2, 16, .s (.c (.sl 21 0 1 1)), [(21, [.int 4])], xisF []⟩
theorem kb2_11_ok : kb2_11.ok ob1 59 = true := by kernel_rfl
noncomputable def kb2_12 : Kp := ⟨[maA 0 8 7, .s (.c (.bool false))], mmC 0 0 pb12 tb12, 2, 16, .s (.c (.sl 21 0 1 1)), [(21, [.int 4])], xisF []⟩
theorem kb2_12_ok : kb2_12.ok ob1 59 = true := by kernel_rfl
noncomputable def kb2_13 : Kp := ⟨[maA 0 8 7, .s (.c (.bool false))], mmC 0 0 pb13 tb13, 2, 16, .s (.c (.sl 21 0 1 1)), [(21, [.int 4])], xisF []⟩
theorem kb2_13_ok : kb2_13.ok ob1 59 = true := by kernel_rfl
noncomputable def kb2_14 : Kp := ⟨[maA 0 8 7, .s (.c (.bool false))], mmC 0 0 pb14 tb14, 2, 16, .s (.c (.sl 21 0 1 1)), [(21, [.int 4])], xisF []⟩
theorem kb2_14_ok : kb2_14.ok ob1 59 = true := by kernel_rfl
noncomputable def ob2 : Orcs := withK 59 [kb2_0, kb2_1, kb2_2, kb2_3, kb2_4, kb2_5, kb2_6, kb2_7, kb2_8, kb2_9, kb2_10, kb2_11, kb2_12, kb2_13, kb2_14] ob1
theorem ob2_ok : OkP parCs01 ob2 := withK_ok ob1_ok ⟨kb2_0_ok, kb2_1_ok, kb2_2_ok, kb2_3_ok, kb2_4_ok, kb2_5_ok, kb2_6_ok, kb2_7_ok, kb2_8_ok, kb2_9_ok, kb2_10_ok, kb2_11_ok, kb2_12_ok, kb2_13_ok, kb2_14_ok, trivial⟩
noncomputable def kb3_0 : Kp := ⟨[maA 0 5 4, .s (.c (.sl 2 0 0 1))], app (mmC 0 0 pb0 tb0) ([(2, [])]), 3, 10, .s (.agg ([.sl 194 0 5 6, .sl 271 0 4 5])), [(194, ptsC 10 pb0), (271, tb0)], xpF [(0, 10)] pb0⟩
theorem kb3_0_ok : kb3_0.ok ob2 154 = true := by kernel_rfl
noncomputable def kb3_1 : Kp := ⟨[maA 0 5 4, .s (.c (.sl 2 0 1 1))], app (mmC 0 0 pb0 tb0) ([(2, [.int 0])]), 3, 10, .s (.agg ([.sl 173 0 6 6, .sl 284 0 5 5])), [(173, tpC [(10, 10), (23, 2)] pb1), (284, tb1)], xpF [(0, 10), (3, 2)] pb1⟩
theorem kb3_1_ok : kb3_1.ok ob2 154 = true := by kernel_rfl
noncomputable def kb3_2 : Kp := ⟨[maA 0 5 4, .s (.c (.sl 2 0 1 1))], app (mmC 0 0 pb0 tb0) ([(2, [.int 3])]), 3, 10, .s (.agg ([.sl 173 0 6 6, .sl 284 0 5 5])), [(173, tpC [(10, 10), (23, 2)] pb2), (284, tb2)], xpF [(0, 10), (3, 2)] pb2⟩
theorem kb3_2_ok : kb3_2.ok ob2 154 = true := by kernel_rfl
noncomputable def kb3_3 : Kp := ⟨[maA 0 5 4, .s (.c (.sl 2 0 1 1))], app (mmC 0 0 pb0 tb0) ([(2, [.int 5])]), 3, 10, .s (.agg ([.sl 173 0 6 6, .sl 284 0 5 5])), [(173, tpC [(10, 10), (23, 2)] pb3), (284, tb3)], xpF [(0, 10), (3, 2)] pb3⟩
theorem kb3_3_ok : kb3_3.ok ob2 154 = true := by kernel_rfl
noncomputable def kb3_4 : Kp := ⟨[maA 0 5 4, .s (.c (.sl 2 0 1 1))], app (mmC 0 0 pb0 tb0) ([(2, [.int 1])]), 3, 10, .s (.agg ([.sl 173 0 6 6, .sl 284 0 5 5])), [(173, tpC [(10, 10), (23, 2)] pb4), (284, tb4)], xpF [(0, 10), (3, 2)] pb4⟩
theorem kb3_4_ok : kb3_4.ok ob2 154 = true := by kernel_rfl
noncomputable def kb3_5 : Kp := ⟨[maA 0 5 4, .s (.c (.sl 2 0 2 1))], app (mmC 0 0 pb0 tb0) ([(2, [.int 0, .int 3])]), 3, 10, .s (.agg ([.sl 149 0 7 6, .sl 297 0 6 5])), [(149, tpC [(10, 10), (23, 2), (28, 2)] pb5), (297, tb5)], xpF [(0, 10), (3, 2), (3, 2)] pb5⟩
theorem kb3_5_ok : kb3_5.ok ob2 154 = true := by kernel_rfl
noncomputable def kb3_6 : Kp := ⟨[maA 0 5 4, .s (.c (.sl 2 0 2 1))], app (mmC 0 0 pb0 tb0) ([(2, [.int 0, .int 5])]), 3, 10, .s (.agg ([.sl 149 0 7 6, .sl 297 0 6 5])), [(149, tpC [(10, 10), (23, 2), (28, 2)] pb6), (297, tb6)], xpF [(0, 10), (3, 2), (3, 2)] pb6⟩
theorem kb3_6_ok : kb3_6.ok ob2 154 = true := by kernel_rfl
noncomputable def kb3_7 : Kp := ⟨[maA 0 5 4, .s (.c (.sl 2 0 2 1))], app (mmC 0 0 pb0 tb0) ([(2, [.int 0, .int 1])]), 3, 10, .s (.agg ([.sl 149 0 7 6, .sl 297 0 6 5])), [(149, tpC [(10, 10), (23, 2), (28, 2)] pb7), (297, tb7)], xpF [(0, 10), (3, 2), (3, 2)] pb7⟩
theorem kb3_7_ok : kb3_7.ok ob2 154 = true := by kernel_rfl
noncomputable def kb3_8 : Kp := ⟨[maA 0 5 4, .s (.c (.sl 2 0 2 1))], app (mmC 0 0 pb0 tb0) ([(2, [.int 3, .int 5])]), 3, 10, .s (.agg ([.sl 149 0 7 6, .sl 297 0 6 5])), [(149, tpC [(10, 10), (23, 2), (28, 2)] pb8), (297, tb8)], xpF [(0, 10), (3, 2), (3, 2)] pb8⟩
theorem kb3_8_ok : kb3_8.ok ob2 154 = true := by kernel_rfl
noncomputable def kb3_9 : Kp := ⟨[maA 0 5 4, .s (.c (.sl 2 0 2 1))], app (mmC 0 0 pb0 tb0) ([(2, [.int 1, .int 3])]), 3, 10, .s (.agg ([.sl 149 0 7 6, .sl 297 0 6 5])), [(149, tpC [(10, 10), (23, 2), (28, 2)] pb9), (297, tb9)], xpF [(0, 10), (3, 2), (3, 2)] pb9⟩
theorem kb3_9_ok : kb3_9.ok ob2 154 = true := by kernel_rfl
end Go.Proofs.YtcblajhfehadaaaGreat
