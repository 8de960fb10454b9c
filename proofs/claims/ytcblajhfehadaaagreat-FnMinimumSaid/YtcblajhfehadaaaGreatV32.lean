/-
 Shared texts (V32).
-/
import Derived.Test.YtcblajhfehadaaaGreatV27
import Derived.Test.YtcblajhfehadaaaGreatV28
import Derived.Test.YtcblajhfehadaaaGreatV29
import Derived.Test.YtcblajhfehadaaaGreatV30
import Derived.Test.YtcblajhfehadaaaGreatV31
namespace Go.Proofs.YtcblajhfehadaaaGreat
open Go.RowKit Go.Joins Go.SX
set_option maxRecDepth 1000000
noncomputable def ogi3:Orcs:=withK 138 [kgi4_0,kgi4_1,kgi4_2,kgi4_3,kgi4_4,kgi4_5,kgi4_6,kgi4_7,kgi4_8,kgi4_9,kgi4_10,kgi4_11,kgi4_12,kgi4_13,kgi4_14,kgi4_15,kgi4_16,kgi4_17,kgi4_18,kgi4_19,kgi4_20,kgi4_21] ogi1
theorem ogi3_ok:OkP parPc20 ogi3:=withK2_ok ogi1_ok (orcGZ_ok parPc20_ok exPc20_ok) ⟨kgi4_0_ok,kgi4_1_ok,kgi4_2_ok,kgi4_3_ok,kgi4_4_ok,kgi4_5_ok,kgi4_6_ok,kgi4_7_ok,kgi4_8_ok,kgi4_9_ok,kgi4_10_ok,kgi4_11_ok,kgi4_12_ok,kgi4_13_ok,kgi4_14_ok,kgi4_15_ok,kgi4_16_ok,kgi4_17_ok,kgi4_18_ok,kgi4_19_ok,kgi4_20_ok,kgi4_21_ok,trivial⟩
noncomputable def ogi4:Orcs:=withK 237 [kgi2_0,kgi2_1,kgi2_2,kgi2_3,kgi2_4,kgi2_5,kgi2_6,kgi2_7,kgi2_8,kgi2_9,kgi2_10,kgi2_11,kgi2_12,kgi2_13,kgi2_14,kgi2_15,kgi2_16,kgi2_17,kgi2_18,kgi2_19,kgi2_20] ogi3
theorem ogi4_ok:OkP parPc20 ogi4:=withK2_ok ogi3_ok ogi1_ok ⟨kgi2_0_ok,kgi2_1_ok,kgi2_2_ok,kgi2_3_ok,kgi2_4_ok,kgi2_5_ok,kgi2_6_ok,kgi2_7_ok,kgi2_8_ok,kgi2_9_ok,kgi2_10_ok,kgi2_11_ok,kgi2_12_ok,kgi2_13_ok,kgi2_14_ok,kgi2_15_ok,kgi2_16_ok,kgi2_17_ok,kgi2_18_ok,kgi2_19_ok,kgi2_20_ok,trivial⟩
noncomputable def ogi5:Orcs:=withK 100 [kgi5_0,kgi5_1,kgi5_2,kgi5_3,kgi5_4,kgi5_5,kgi5_6,kgi5_7,kgi5_8,kgi5_9,kgi5_10,kgi5_11,kgi5_12,kgi5_13,kgi5_14,kgi5_15,kgi5_16,kgi5_17,kgi5_18,kgi5_19,kgi5_20,kgi5_21] ogi4
theorem ogi5_ok:OkP parPc20 ogi5:=withK2_ok ogi4_ok ogi2_ok ⟨kgi5_0_ok,kgi5_1_ok,kgi5_2_ok,kgi5_3_ok,kgi5_4_ok,kgi5_5_ok,kgi5_6_ok,kgi5_7_ok,kgi5_8_ok,kgi5_9_ok,kgi5_10_ok,kgi5_11_ok,kgi5_12_ok,kgi5_13_ok,kgi5_14_ok,kgi5_15_ok,kgi5_16_ok,kgi5_17_ok,kgi5_18_ok,kgi5_19_ok,kgi5_20_ok,kgi5_21_ok,trivial⟩
noncomputable def ogi6:Orcs:=withK 267 [kgi0_0,kgi0_1,kgi0_2,kgi0_3] ogi5
theorem ogi6_ok:OkP parPc20 ogi6:=withK2_ok ogi5_ok (orcGZ_ok parPc20_ok exPc20_ok) ⟨kgi0_0_ok,kgi0_1_ok,kgi0_2_ok,kgi0_3_ok,trivial⟩
noncomputable def ogi7:Orcs:=withK 58 [kgi3_0,kgi3_1,kgi3_2,kgi3_3,kgi3_4,kgi3_5,kgi3_6,kgi3_7,kgi3_8,kgi3_9,kgi3_10,kgi3_11,kgi3_12,kgi3_13,kgi3_14,kgi3_15,kgi3_16,kgi3_17,kgi3_18,kgi3_19,kgi3_20,kgi3_21] ogi6
theorem ogi7_ok:OkP parPc20 ogi7:=withK2_ok ogi6_ok (orcGZ_ok parPc20_ok exPc20_ok) ⟨kgi3_0_ok,kgi3_1_ok,kgi3_2_ok,kgi3_3_ok,kgi3_4_ok,kgi3_5_ok,kgi3_6_ok,kgi3_7_ok,kgi3_8_ok,kgi3_9_ok,kgi3_10_ok,kgi3_11_ok,kgi3_12_ok,kgi3_13_ok,kgi3_14_ok,kgi3_15_ok,kgi3_16_ok,kgi3_17_ok,kgi3_18_ok,kgi3_19_ok,kgi3_20_ok,kgi3_21_ok,trivial⟩
end Go.Proofs.YtcblajhfehadaaaGreat
