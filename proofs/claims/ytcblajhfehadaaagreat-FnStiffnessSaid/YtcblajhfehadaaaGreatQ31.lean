/-
 Shared texts (Q31).
-/
import Derived.Test.YtcblajhfehadaaaGreatQ27
import Derived.Test.YtcblajhfehadaaaGreatQ28
import Derived.Test.YtcblajhfehadaaaGreatQ29
import Derived.Test.YtcblajhfehadaaaGreatQ30
namespace Go.Proofs.YtcblajhfehadaaaGreat
open Go.RowKit Go.Joins Go.SX
set_option maxRecDepth 1000000
noncomputable def obh3:Orcs:=withK 138 [kbh4_0,kbh4_1,kbh4_2,kbh4_3,kbh4_4,kbh4_5,kbh4_6,kbh4_7,kbh4_8,kbh4_9,kbh4_10,kbh4_11,kbh4_12,kbh4_13,kbh4_14,kbh4_15,kbh4_16,kbh4_17,kbh4_18,kbh4_19,kbh4_20,kbh4_21,kbh4_22,kbh4_23,kbh4_24] obh1
theorem obh3_ok:OkP parPb01 obh3:=withK2_ok obh1_ok (orcGS_ok parPb01_ok exPb01_ok) ⟨kbh4_0_ok,kbh4_1_ok,kbh4_2_ok,kbh4_3_ok,kbh4_4_ok,kbh4_5_ok,kbh4_6_ok,kbh4_7_ok,kbh4_8_ok,kbh4_9_ok,kbh4_10_ok,kbh4_11_ok,kbh4_12_ok,kbh4_13_ok,kbh4_14_ok,kbh4_15_ok,kbh4_16_ok,kbh4_17_ok,kbh4_18_ok,kbh4_19_ok,kbh4_20_ok,kbh4_21_ok,kbh4_22_ok,kbh4_23_ok,kbh4_24_ok,trivial⟩
noncomputable def obh4:Orcs:=withK 237 [kbh2_0,kbh2_1,kbh2_2,kbh2_3,kbh2_4,kbh2_5,kbh2_6,kbh2_7,kbh2_8,kbh2_9,kbh2_10,kbh2_11,kbh2_12,kbh2_13,kbh2_14,kbh2_15,kbh2_16,kbh2_17,kbh2_18,kbh2_19,kbh2_20,kbh2_21,kbh2_22,kbh2_23] obh3
theorem obh4_ok:OkP parPb01 obh4:=withK2_ok obh3_ok obh1_ok ⟨kbh2_0_ok,kbh2_1_ok,kbh2_2_ok,kbh2_3_ok,kbh2_4_ok,kbh2_5_ok,kbh2_6_ok,kbh2_7_ok,kbh2_8_ok,kbh2_9_ok,kbh2_10_ok,kbh2_11_ok,kbh2_12_ok,kbh2_13_ok,kbh2_14_ok,kbh2_15_ok,kbh2_16_ok,kbh2_17_ok,kbh2_18_ok,kbh2_19_ok,kbh2_20_ok,kbh2_21_ok,kbh2_22_ok,kbh2_23_ok,trivial⟩
noncomputable def obh5:Orcs:=withK 100 [kbh5_0,kbh5_1,kbh5_2,kbh5_3,kbh5_4,kbh5_5,kbh5_6,kbh5_7,kbh5_8,kbh5_9,kbh5_10,kbh5_11,kbh5_12,kbh5_13,kbh5_14,kbh5_15,kbh5_16,kbh5_17,kbh5_18,kbh5_19,kbh5_20,kbh5_21,kbh5_22,kbh5_23,kbh5_24] obh4
theorem obh5_ok:OkP parPb01 obh5:=withK2_ok obh4_ok obh2_ok ⟨kbh5_0_ok,kbh5_1_ok,kbh5_2_ok,kbh5_3_ok,kbh5_4_ok,kbh5_5_ok,kbh5_6_ok,kbh5_7_ok,kbh5_8_ok,kbh5_9_ok,kbh5_10_ok,kbh5_11_ok,kbh5_12_ok,kbh5_13_ok,kbh5_14_ok,kbh5_15_ok,kbh5_16_ok,kbh5_17_ok,kbh5_18_ok,kbh5_19_ok,kbh5_20_ok,kbh5_21_ok,kbh5_22_ok,kbh5_23_ok,kbh5_24_ok,trivial⟩
noncomputable def obh6:Orcs:=withK 267 [kbh0_0,kbh0_1,kbh0_2,kbh0_3,kbh0_4] obh5
theorem obh6_ok:OkP parPb01 obh6:=withK2_ok obh5_ok (orcGS_ok parPb01_ok exPb01_ok) ⟨kbh0_0_ok,kbh0_1_ok,kbh0_2_ok,kbh0_3_ok,kbh0_4_ok,trivial⟩
noncomputable def obh7:Orcs:=withK 58 [kbh3_0,kbh3_1,kbh3_2,kbh3_3,kbh3_4,kbh3_5,kbh3_6,kbh3_7,kbh3_8,kbh3_9,kbh3_10,kbh3_11,kbh3_12,kbh3_13,kbh3_14,kbh3_15,kbh3_16,kbh3_17,kbh3_18,kbh3_19,kbh3_20,kbh3_21,kbh3_22,kbh3_23,kbh3_24] obh6
theorem obh7_ok:OkP parPb01 obh7:=withK2_ok obh6_ok (orcGS_ok parPb01_ok exPb01_ok) ⟨kbh3_0_ok,kbh3_1_ok,kbh3_2_ok,kbh3_3_ok,kbh3_4_ok,kbh3_5_ok,kbh3_6_ok,kbh3_7_ok,kbh3_8_ok,kbh3_9_ok,kbh3_10_ok,kbh3_11_ok,kbh3_12_ok,kbh3_13_ok,kbh3_14_ok,kbh3_15_ok,kbh3_16_ok,kbh3_17_ok,kbh3_18_ok,kbh3_19_ok,kbh3_20_ok,kbh3_21_ok,kbh3_22_ok,kbh3_23_ok,kbh3_24_ok,trivial⟩
end Go.Proofs.YtcblajhfehadaaaGreat
