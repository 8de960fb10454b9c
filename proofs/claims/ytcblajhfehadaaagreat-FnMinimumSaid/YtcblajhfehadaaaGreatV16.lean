/-
 Shared texts (V16).
-/
import Derived.Test.YtcblajhfehadaaaGreatV12
import Derived.Test.YtcblajhfehadaaaGreatV13
import Derived.Test.YtcblajhfehadaaaGreatV14
import Derived.Test.YtcblajhfehadaaaGreatV15
namespace Go.Proofs.YtcblajhfehadaaaGreat
open Go.RowKit Go.Joins Go.SX
set_option maxRecDepth 1000000
noncomputable def obi3:Orcs:=withK 138 [kbi4_0,kbi4_1,kbi4_2,kbi4_3,kbi4_4,kbi4_5,kbi4_6,kbi4_7,kbi4_8,kbi4_9,kbi4_10,kbi4_11,kbi4_12,kbi4_13,kbi4_14,kbi4_15,kbi4_16,kbi4_17,kbi4_18,kbi4_19,kbi4_20,kbi4_21,kbi4_22,kbi4_23,kbi4_24] obi1
theorem obi3_ok:OkP parPc01 obi3:=withK2_ok obi1_ok (orcGZ_ok parPc01_ok exPc01_ok) ⟨kbi4_0_ok,kbi4_1_ok,kbi4_2_ok,kbi4_3_ok,kbi4_4_ok,kbi4_5_ok,kbi4_6_ok,kbi4_7_ok,kbi4_8_ok,kbi4_9_ok,kbi4_10_ok,kbi4_11_ok,kbi4_12_ok,kbi4_13_ok,kbi4_14_ok,kbi4_15_ok,kbi4_16_ok,kbi4_17_ok,kbi4_18_ok,kbi4_19_ok,kbi4_20_ok,kbi4_21_ok,kbi4_22_ok,kbi4_23_ok,kbi4_24_ok,trivial⟩
noncomputable def obi4:Orcs:=withK 237 [kbi2_0,kbi2_1,kbi2_2,kbi2_3,kbi2_4,kbi2_5,kbi2_6,kbi2_7,kbi2_8,kbi2_9,kbi2_10,kbi2_11,kbi2_12,kbi2_13,kbi2_14,kbi2_15,kbi2_16,kbi2_17,kbi2_18,kbi2_19,kbi2_20,kbi2_21,kbi2_22,kbi2_23] obi3
theorem obi4_ok:OkP parPc01 obi4:=withK2_ok obi3_ok obi1_ok ⟨kbi2_0_ok,kbi2_1_ok,kbi2_2_ok,kbi2_3_ok,kbi2_4_ok,kbi2_5_ok,kbi2_6_ok,kbi2_7_ok,kbi2_8_ok,kbi2_9_ok,kbi2_10_ok,kbi2_11_ok,kbi2_12_ok,kbi2_13_ok,kbi2_14_ok,kbi2_15_ok,kbi2_16_ok,kbi2_17_ok,kbi2_18_ok,kbi2_19_ok,kbi2_20_ok,kbi2_21_ok,kbi2_22_ok,kbi2_23_ok,trivial⟩
noncomputable def obi5:Orcs:=withK 100 [kbi5_0,kbi5_1,kbi5_2,kbi5_3,kbi5_4,kbi5_5,kbi5_6,kbi5_7,kbi5_8,kbi5_9,kbi5_10,kbi5_11,kbi5_12,kbi5_13,kbi5_14,kbi5_15,kbi5_16,kbi5_17,kbi5_18,kbi5_19,kbi5_20,kbi5_21,kbi5_22,kbi5_23,kbi5_24] obi4
theorem obi5_ok:OkP parPc01 obi5:=withK2_ok obi4_ok obi2_ok ⟨kbi5_0_ok,kbi5_1_ok,kbi5_2_ok,kbi5_3_ok,kbi5_4_ok,kbi5_5_ok,kbi5_6_ok,kbi5_7_ok,kbi5_8_ok,kbi5_9_ok,kbi5_10_ok,kbi5_11_ok,kbi5_12_ok,kbi5_13_ok,kbi5_14_ok,kbi5_15_ok,kbi5_16_ok,kbi5_17_ok,kbi5_18_ok,kbi5_19_ok,kbi5_20_ok,kbi5_21_ok,kbi5_22_ok,kbi5_23_ok,kbi5_24_ok,trivial⟩
noncomputable def obi6:Orcs:=withK 267 [kbi0_0,kbi0_1,kbi0_2,kbi0_3,kbi0_4] obi5
theorem obi6_ok:OkP parPc01 obi6:=withK2_ok obi5_ok (orcGZ_ok parPc01_ok exPc01_ok) ⟨kbi0_0_ok,kbi0_1_ok,kbi0_2_ok,kbi0_3_ok,kbi0_4_ok,trivial⟩
noncomputable def obi7:Orcs:=withK 58 [kbi3_0,kbi3_1,kbi3_2,kbi3_3,kbi3_4,kbi3_5,kbi3_6,kbi3_7,kbi3_8,kbi3_9,kbi3_10,kbi3_11,kbi3_12,kbi3_13,kbi3_14,kbi3_15,kbi3_16,kbi3_17,kbi3_18,kbi3_19,kbi3_20,kbi3_21,kbi3_22,kbi3_23,kbi3_24] obi6
theorem obi7_ok:OkP parPc01 obi7:=withK2_ok obi6_ok (orcGZ_ok parPc01_ok exPc01_ok) ⟨kbi3_0_ok,kbi3_1_ok,kbi3_2_ok,kbi3_3_ok,kbi3_4_ok,kbi3_5_ok,kbi3_6_ok,kbi3_7_ok,kbi3_8_ok,kbi3_9_ok,kbi3_10_ok,kbi3_11_ok,kbi3_12_ok,kbi3_13_ok,kbi3_14_ok,kbi3_15_ok,kbi3_16_ok,kbi3_17_ok,kbi3_18_ok,kbi3_19_ok,kbi3_20_ok,kbi3_21_ok,kbi3_22_ok,kbi3_23_ok,kbi3_24_ok,trivial⟩
end Go.Proofs.YtcblajhfehadaaaGreat
