/-
 Shared texts (Q41).
-/
import Derived.Test.YtcblajhfehadaaaGreatQ40
namespace Go.Proofs.YtcblajhfehadaaaGreat
open Go.RowKit Go.Joins Go.SX
set_option maxRecDepth 1000000
noncomputable def kgh1_0:Kp:=kE mgh0 104 13 tgh4
theorem kgh1_0_ok:kgh1_0.ok bgh 262 = true:=by kernel_rfl
noncomputable def kgh1_1:Kp:=kE mgh1 131 16 tgh5
theorem kgh1_1_ok:kgh1_1.ok bgh 262 = true:=by kernel_rfl
noncomputable def kgh1_2:Kp:=kE mgh2 131 16 tgh6
theorem kgh1_2_ok:kgh1_2.ok bgh 262 = true:=by kernel_rfl
noncomputable def kgh1_3:Kp:=kE mgh3 130 16 tgh7
theorem kgh1_3_ok:kgh1_3.ok bgh 262 = true:=by kernel_rfl
noncomputable def kgh4_0:Kp:=kE mgh0 284 13 tgh4
theorem kgh4_0_ok:kgh4_0.ok bgh 138 = true:=by kernel_rfl
noncomputable def kgh4_1:Kp:=kE mgh1 391 16 tgh5
theorem kgh4_1_ok:kgh4_1.ok bgh 138 = true:=by kernel_rfl
noncomputable def kgh4_2:Kp:=kE mgh2 403 16 tgh6
theorem kgh4_2_ok:kgh4_2.ok bgh 138 = true:=by kernel_rfl
noncomputable def kgh4_3:Kp:=kE mgh3 383 16 tgh7
theorem kgh4_3_ok:kgh4_3.ok bgh 138 = true:=by kernel_rfl
noncomputable def kgh4_4:Kp:=kE mgh4 659 22 tgh26
theorem kgh4_4_ok:kgh4_4.ok bgh 138 = true:=by kernel_rfl
noncomputable def kgh4_5:Kp:=kE mgh5 471 18 tgh27
theorem kgh4_5_ok:kgh4_5.ok bgh 138 = true:=by kernel_rfl
noncomputable def kgh4_6:Kp:=kE mgh6 465 18 tgh28
theorem kgh4_6_ok:kgh4_6.ok bgh 138 = true:=by kernel_rfl
noncomputable def kgh4_7:Kp:=kE mgh7 606 22 tgh29
theorem kgh4_7_ok:kgh4_7.ok bgh 138 = true:=by kernel_rfl
noncomputable def kgh4_8:Kp:=kE mgh8 516 19 tgh30
theorem kgh4_8_ok:kgh4_8.ok bgh 138 = true:=by kernel_rfl
noncomputable def kgh4_9:Kp:=kE mgh9 493 19 tgh31
theorem kgh4_9_ok:kgh4_9.ok bgh 138 = true:=by kernel_rfl
noncomputable def kgh4_10:Kp:=kE mgh10 516 19 tgh32
theorem kgh4_10_ok:kgh4_10.ok bgh 138 = true:=by kernel_rfl
noncomputable def kgh4_11:Kp:=kE mgh11 465 18 tgh33
theorem kgh4_11_ok:kgh4_11.ok bgh 138 = true:=by kernel_rfl
noncomputable def kgh4_12:Kp:=kE mgh12 459 18 tgh34
theorem kgh4_12_ok:kgh4_12.ok bgh 138 = true:=by kernel_rfl
noncomputable def kgh4_13:Kp:=kE mgh13 462 18 tgh35
theorem kgh4_13_ok:kgh4_13.ok bgh 138 = true:=by kernel_rfl
noncomputable def kgh4_14:Kp:=kE mgh14 659 22 tgh36
theorem kgh4_14_ok:kgh4_14.ok bgh 138 = true:=by kernel_rfl
noncomputable def kgh4_15:Kp:=kE mgh15 505 19 tgh37
theorem kgh4_15_ok:kgh4_15.ok bgh 138 = true:=by kernel_rfl
noncomputable def kgh4_16:Kp:=kE mgh16 499 19 tgh38
theorem kgh4_16_ok:kgh4_16.ok bgh 138 = true:=by kernel_rfl
noncomputable def kgh4_17:Kp:=kE mgh17 508 19 tgh39
theorem kgh4_17_ok:kgh4_17.ok bgh 138 = true:=by kernel_rfl
noncomputable def kgh4_18:Kp:=kE mgh18 609 22 tgh40
theorem kgh4_18_ok:kgh4_18.ok bgh 138 = true:=by kernel_rfl
noncomputable def kgh4_19:Kp:=kE mgh19 439 18 tgh41
theorem kgh4_19_ok:kgh4_19.ok bgh 138 = true:=by kernel_rfl
noncomputable def kgh4_20:Kp:=kE mgh20 439 18 tgh42
theorem kgh4_20_ok:kgh4_20.ok bgh 138 = true:=by kernel_rfl
noncomputable def kgh4_21:Kp:=kE mgh21 422 18 tgh43
theorem kgh4_21_ok:kgh4_21.ok bgh 138 = true:=by kernel_rfl
noncomputable def ogh1:Orcs:=withK 262 [kgh1_0,kgh1_1,kgh1_2,kgh1_3] bgh
theorem ogh1_ok:OkP parPb20 ogh1:=withK2_ok (orcGS_ok parPb20_ok exPb20_ok) (orcGS_ok parPb20_ok exPb20_ok) ⟨kgh1_0_ok,kgh1_1_ok,kgh1_2_ok,kgh1_3_ok,trivial⟩
noncomputable def ogh2:Orcs:=withK 138 [kgh4_0,kgh4_1,kgh4_2,kgh4_3,kgh4_4,kgh4_5,kgh4_6,kgh4_7,kgh4_8,kgh4_9,kgh4_10,kgh4_11,kgh4_12,kgh4_13,kgh4_14,kgh4_15,kgh4_16,kgh4_17,kgh4_18,kgh4_19,kgh4_20,kgh4_21] bgh
theorem ogh2_ok:OkP parPb20 ogh2:=withK2_ok (orcGS_ok parPb20_ok exPb20_ok) (orcGS_ok parPb20_ok exPb20_ok) ⟨kgh4_0_ok,kgh4_1_ok,kgh4_2_ok,kgh4_3_ok,kgh4_4_ok,kgh4_5_ok,kgh4_6_ok,kgh4_7_ok,kgh4_8_ok,kgh4_9_ok,kgh4_10_ok,kgh4_11_ok,kgh4_12_ok,kgh4_13_ok,kgh4_14_ok,kgh4_15_ok,kgh4_16_ok,kgh4_17_ok,kgh4_18_ok,kgh4_19_ok,kgh4_20_ok,kgh4_21_ok,trivial⟩
end Go.Proofs.YtcblajhfehadaaaGreat
