/-
 Shared texts (Q23).
-/
import Derived.Test.YtcblajhfehadaaaGreatQ19
import Derived.Test.YtcblajhfehadaaaGreatQ20
import Derived.Test.YtcblajhfehadaaaGreatQ21
import Derived.Test.YtcblajhfehadaaaGreatQ22
namespace Go.Proofs.YtcblajhfehadaaaGreat
open Go.RowKit Go.Joins Go.SX
set_option maxRecDepth 1000000
noncomputable def oah3:Orcs:=withK 138 [kah4_0,kah4_1,kah4_2,kah4_3,kah4_4,kah4_5,kah4_6,kah4_7,kah4_8,kah4_9,kah4_10,kah4_11,kah4_12,kah4_13,kah4_14,kah4_15,kah4_16,kah4_17,kah4_18,kah4_19,kah4_20,kah4_21,kah4_22,kah4_23,kah4_24] oah1
theorem oah3_ok:OkP parPb00 oah3:=withK2_ok oah1_ok (orcGS_ok parPb00_ok exPb00_ok) ⟨kah4_0_ok,kah4_1_ok,kah4_2_ok,kah4_3_ok,kah4_4_ok,kah4_5_ok,kah4_6_ok,kah4_7_ok,kah4_8_ok,kah4_9_ok,kah4_10_ok,kah4_11_ok,kah4_12_ok,kah4_13_ok,kah4_14_ok,kah4_15_ok,kah4_16_ok,kah4_17_ok,kah4_18_ok,kah4_19_ok,kah4_20_ok,kah4_21_ok,kah4_22_ok,kah4_23_ok,kah4_24_ok,trivial⟩
noncomputable def oah4:Orcs:=withK 237 [kah2_0,kah2_1,kah2_2,kah2_3,kah2_4,kah2_5,kah2_6,kah2_7,kah2_8,kah2_9,kah2_10,kah2_11,kah2_12,kah2_13,kah2_14,kah2_15,kah2_16,kah2_17,kah2_18,kah2_19,kah2_20,kah2_21,kah2_22,kah2_23] oah3
theorem oah4_ok:OkP parPb00 oah4:=withK2_ok oah3_ok oah1_ok ⟨kah2_0_ok,kah2_1_ok,kah2_2_ok,kah2_3_ok,kah2_4_ok,kah2_5_ok,kah2_6_ok,kah2_7_ok,kah2_8_ok,kah2_9_ok,kah2_10_ok,kah2_11_ok,kah2_12_ok,kah2_13_ok,kah2_14_ok,kah2_15_ok,kah2_16_ok,kah2_17_ok,kah2_18_ok,kah2_19_ok,kah2_20_ok,kah2_21_ok,kah2_22_ok,kah2_23_ok,trivial⟩
noncomputable def oah5:Orcs:=withK 100 [kah5_0,kah5_1,kah5_2,kah5_3,kah5_4,kah5_5,kah5_6,kah5_7,kah5_8,kah5_9,kah5_10,kah5_11,kah5_12,kah5_13,kah5_14,kah5_15,kah5_16,kah5_17,kah5_18,kah5_19,kah5_20,kah5_21,kah5_22,kah5_23,kah5_24] oah4
theorem oah5_ok:OkP parPb00 oah5:=withK2_ok oah4_ok oah2_ok ⟨kah5_0_ok,kah5_1_ok,kah5_2_ok,kah5_3_ok,kah5_4_ok,kah5_5_ok,kah5_6_ok,kah5_7_ok,kah5_8_ok,kah5_9_ok,kah5_10_ok,kah5_11_ok,kah5_12_ok,kah5_13_ok,kah5_14_ok,kah5_15_ok,kah5_16_ok,kah5_17_ok,kah5_18_ok,kah5_19_ok,kah5_20_ok,kah5_21_ok,kah5_22_ok,kah5_23_ok,kah5_24_ok,trivial⟩
noncomputable def oah6:Orcs:=withK 267 [kah0_0,kah0_1,kah0_2,kah0_3,kah0_4] oah5
theorem oah6_ok:OkP parPb00 oah6:=withK2_ok oah5_ok (orcGS_ok parPb00_ok exPb00_ok) ⟨kah0_0_ok,kah0_1_ok,kah0_2_ok,kah0_3_ok,kah0_4_ok,trivial⟩
noncomputable def oah7:Orcs:=withK 58 [kah3_0,kah3_1,kah3_2,kah3_3,kah3_4,kah3_5,kah3_6,kah3_7,kah3_8,kah3_9,kah3_10,kah3_11,kah3_12,kah3_13,kah3_14,kah3_15,kah3_16,kah3_17,kah3_18,kah3_19,kah3_20,kah3_21,kah3_22,kah3_23,kah3_24] oah6
theorem oah7_ok:OkP parPb00 oah7:=withK2_ok oah6_ok (orcGS_ok parPb00_ok exPb00_ok) ⟨kah3_0_ok,kah3_1_ok,kah3_2_ok,kah3_3_ok,kah3_4_ok,kah3_5_ok,kah3_6_ok,kah3_7_ok,kah3_8_ok,kah3_9_ok,kah3_10_ok,kah3_11_ok,kah3_12_ok,kah3_13_ok,kah3_14_ok,kah3_15_ok,kah3_16_ok,kah3_17_ok,kah3_18_ok,kah3_19_ok,kah3_20_ok,kah3_21_ok,kah3_22_ok,kah3_23_ok,kah3_24_ok,trivial⟩
end Go.Proofs.YtcblajhfehadaaaGreat
