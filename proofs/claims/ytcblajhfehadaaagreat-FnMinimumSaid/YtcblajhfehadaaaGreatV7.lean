/-
 Shared texts (V7).
-/
import Derived.Test.YtcblajhfehadaaaGreatV3
import Derived.Test.YtcblajhfehadaaaGreatV4
import Derived.Test.YtcblajhfehadaaaGreatV5
import Derived.Test.YtcblajhfehadaaaGreatV6
namespace Go.Proofs.YtcblajhfehadaaaGreat
open Go.RowKit Go.Joins Go.SX
set_option maxRecDepth 1000000
noncomputable def oai3:Orcs:=withK 138 [kai4_0,kai4_1,kai4_2,kai4_3,kai4_4,kai4_5,kai4_6,kai4_7,kai4_8,kai4_9,kai4_10,kai4_11,kai4_12,kai4_13,kai4_14,kai4_15,kai4_16,kai4_17,kai4_18,kai4_19,kai4_20,kai4_21,kai4_22,kai4_23,kai4_24] oai1
theorem oai3_ok:OkP parPc00 oai3:=withK2_ok oai1_ok (orcGZ_ok parPc00_ok exPc00_ok) ⟨kai4_0_ok,kai4_1_ok,kai4_2_ok,kai4_3_ok,kai4_4_ok,kai4_5_ok,kai4_6_ok,kai4_7_ok,kai4_8_ok,kai4_9_ok,kai4_10_ok,kai4_11_ok,kai4_12_ok,kai4_13_ok,kai4_14_ok,kai4_15_ok,kai4_16_ok,kai4_17_ok,kai4_18_ok,kai4_19_ok,kai4_20_ok,kai4_21_ok,kai4_22_ok,kai4_23_ok,kai4_24_ok,trivial⟩
noncomputable def oai4:Orcs:=withK 237 [kai2_0,kai2_1,kai2_2,kai2_3,kai2_4,kai2_5,kai2_6,kai2_7,kai2_8,kai2_9,kai2_10,kai2_11,kai2_12,kai2_13,kai2_14,kai2_15,kai2_16,kai2_17,kai2_18,kai2_19,kai2_20,kai2_21,kai2_22,kai2_23] oai3
theorem oai4_ok:OkP parPc00 oai4:=withK2_ok oai3_ok oai1_ok ⟨kai2_0_ok,kai2_1_ok,kai2_2_ok,kai2_3_ok,kai2_4_ok,kai2_5_ok,kai2_6_ok,kai2_7_ok,kai2_8_ok,kai2_9_ok,kai2_10_ok,kai2_11_ok,kai2_12_ok,kai2_13_ok,kai2_14_ok,kai2_15_ok,kai2_16_ok,kai2_17_ok,kai2_18_ok,kai2_19_ok,kai2_20_ok,kai2_21_ok,kai2_22_ok,kai2_23_ok,trivial⟩
noncomputable def oai5:Orcs:=withK 100 [kai5_0,kai5_1,kai5_2,kai5_3,kai5_4,kai5_5,kai5_6,kai5_7,kai5_8,kai5_9,kai5_10,kai5_11,kai5_12,kai5_13,kai5_14,kai5_15,kai5_16,kai5_17,kai5_18,kai5_19,kai5_20,kai5_21,kai5_22,kai5_23,kai5_24] oai4
theorem oai5_ok:OkP parPc00 oai5:=withK2_ok oai4_ok oai2_ok ⟨kai5_0_ok,kai5_1_ok,kai5_2_ok,kai5_3_ok,kai5_4_ok,kai5_5_ok,kai5_6_ok,kai5_7_ok,kai5_8_ok,kai5_9_ok,kai5_10_ok,kai5_11_ok,kai5_12_ok,kai5_13_ok,kai5_14_ok,kai5_15_ok,kai5_16_ok,kai5_17_ok,kai5_18_ok,kai5_19_ok,kai5_20_ok,kai5_21_ok,kai5_22_ok,kai5_23_ok,kai5_24_ok,trivial⟩
noncomputable def oai6:Orcs:=withK 267 [kai0_0,kai0_1,kai0_2,kai0_3,kai0_4] oai5
theorem oai6_ok:OkP parPc00 oai6:=withK2_ok oai5_ok (orcGZ_ok parPc00_ok exPc00_ok) ⟨kai0_0_ok,kai0_1_ok,kai0_2_ok,kai0_3_ok,kai0_4_ok,trivial⟩
noncomputable def oai7:Orcs:=withK 58 [kai3_0,kai3_1,kai3_2,kai3_3,kai3_4,kai3_5,kai3_6,kai3_7,kai3_8,kai3_9,kai3_10,kai3_11,kai3_12,kai3_13,kai3_14,kai3_15,kai3_16,kai3_17,kai3_18,kai3_19,kai3_20,kai3_21,kai3_22,kai3_23,kai3_24] oai6
theorem oai7_ok:OkP parPc00 oai7:=withK2_ok oai6_ok (orcGZ_ok parPc00_ok exPc00_ok) ⟨kai3_0_ok,kai3_1_ok,kai3_2_ok,kai3_3_ok,kai3_4_ok,kai3_5_ok,kai3_6_ok,kai3_7_ok,kai3_8_ok,kai3_9_ok,kai3_10_ok,kai3_11_ok,kai3_12_ok,kai3_13_ok,kai3_14_ok,kai3_15_ok,kai3_16_ok,kai3_17_ok,kai3_18_ok,kai3_19_ok,kai3_20_ok,kai3_21_ok,kai3_22_ok,kai3_23_ok,kai3_24_ok,trivial⟩
end Go.Proofs.YtcblajhfehadaaaGreat
