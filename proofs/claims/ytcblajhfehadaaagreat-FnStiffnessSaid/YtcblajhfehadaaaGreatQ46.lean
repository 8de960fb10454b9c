/-
 Shared texts (Q46).
-/
import Derived.Test.YtcblajhfehadaaaGreatQ41
import Derived.Test.YtcblajhfehadaaaGreatQ42
import Derived.Test.YtcblajhfehadaaaGreatQ43
import Derived.Test.YtcblajhfehadaaaGreatQ44
import Derived.Test.YtcblajhfehadaaaGreatQ45
namespace Go.Proofs.YtcblajhfehadaaaGreat
open Go.RowKit Go.Joins Go.SX
set_option maxRecDepth 1000000
noncomputable def ogh3:Orcs:=withK 138 [kgh4_0,kgh4_1,kgh4_2,kgh4_3,kgh4_4,kgh4_5,kgh4_6,kgh4_7,kgh4_8,kgh4_9,kgh4_10,kgh4_11,kgh4_12,kgh4_13,kgh4_14,kgh4_15,kgh4_16,kgh4_17,kgh4_18,kgh4_19,kgh4_20,kgh4_21] ogh1
theorem ogh3_ok:OkP parPb20 ogh3:=withK2_ok ogh1_ok (orcGS_ok parPb20_ok exPb20_ok) ⟨kgh4_0_ok,kgh4_1_ok,kgh4_2_ok,kgh4_3_ok,kgh4_4_ok,kgh4_5_ok,kgh4_6_ok,kgh4_7_ok,kgh4_8_ok,kgh4_9_ok,kgh4_10_ok,kgh4_11_ok,kgh4_12_ok,kgh4_13_ok,kgh4_14_ok,kgh4_15_ok,kgh4_16_ok,kgh4_17_ok,kgh4_18_ok,kgh4_19_ok,kgh4_20_ok,kgh4_21_ok,trivial⟩
noncomputable def ogh4:Orcs:=withK 237 [kgh2_0,kgh2_1,kgh2_2,kgh2_3,kgh2_4,kgh2_5,kgh2_6,kgh2_7,kgh2_8,kgh2_9,kgh2_10,kgh2_11,kgh2_12,kgh2_13,kgh2_14,kgh2_15,kgh2_16,kgh2_17,kgh2_18,kgh2_19,kgh2_20] ogh3
theorem ogh4_ok:OkP parPb20 ogh4:=withK2_ok ogh3_ok ogh1_ok ⟨kgh2_0_ok,kgh2_1_ok,kgh2_2_ok,kgh2_3_ok,kgh2_4_ok,kgh2_5_ok,kgh2_6_ok,kgh2_7_ok,kgh2_8_ok,kgh2_9_ok,kgh2_10_ok,kgh2_11_ok,kgh2_12_ok,kgh2_13_ok,kgh2_14_ok,kgh2_15_ok,kgh2_16_ok,kgh2_17_ok,kgh2_18_ok,kgh2_19_ok,kgh2_20_ok,trivial⟩
noncomputable def ogh5:Orcs:=withK 100 [kgh5_0,kgh5_1,kgh5_2,kgh5_3,kgh5_4,kgh5_5,kgh5_6,kgh5_7,kgh5_8,kgh5_9,kgh5_10,kgh5_11,kgh5_12,kgh5_13,kgh5_14,kgh5_15,kgh5_16,kgh5_17,kgh5_18,kgh5_19,kgh5_20,kgh5_21] ogh4
theorem ogh5_ok:OkP parPb20 ogh5:=withK2_ok ogh4_ok ogh2_ok ⟨kgh5_0_ok,kgh5_1_ok,kgh5_2_ok,kgh5_3_ok,kgh5_4_ok,kgh5_5_ok,kgh5_6_ok,kgh5_7_ok,kgh5_8_ok,kgh5_9_ok,kgh5_10_ok,kgh5_11_ok,kgh5_12_ok,kgh5_13_ok,kgh5_14_ok,kgh5_15_ok,kgh5_16_ok,kgh5_17_ok,kgh5_18_ok,kgh5_19_ok,kgh5_20_ok,kgh5_21_ok,trivial⟩
noncomputable def ogh6:Orcs:=withK 267 [kgh0_0,kgh0_1,kgh0_2,kgh0_3] ogh5
theorem ogh6_ok:OkP parPb20 ogh6:=withK2_ok ogh5_ok (orcGS_ok parPb20_ok exPb20_ok) ⟨kgh0_0_ok,kgh0_1_ok,kgh0_2_ok,kgh0_3_ok,trivial⟩
noncomputable def ogh7:Orcs:=withK 58 [kgh3_0,kgh3_1,kgh3_2,kgh3_3,kgh3_4,kgh3_5,kgh3_6,kgh3_7,kgh3_8,kgh3_9,kgh3_10,kgh3_11,kgh3_12,kgh3_13,kgh3_14,kgh3_15,kgh3_16,kgh3_17,kgh3_18,kgh3_19,kgh3_20,kgh3_21] ogh6
theorem ogh7_ok:OkP parPb20 ogh7:=withK2_ok ogh6_ok (orcGS_ok parPb20_ok exPb20_ok) ⟨kgh3_0_ok,kgh3_1_ok,kgh3_2_ok,kgh3_3_ok,kgh3_4_ok,kgh3_5_ok,kgh3_6_ok,kgh3_7_ok,kgh3_8_ok,kgh3_9_ok,kgh3_10_ok,kgh3_11_ok,kgh3_12_ok,kgh3_13_ok,kgh3_14_ok,kgh3_15_ok,kgh3_16_ok,kgh3_17_ok,kgh3_18_ok,kgh3_19_ok,kgh3_20_ok,kgh3_21_ok,trivial⟩
end Go.Proofs.YtcblajhfehadaaaGreat
