/-
 Shared texts (V3).
-/
import Derived.Test.YtcblajhfehadaaaGreatV2
namespace Go.Proofs.YtcblajhfehadaaaGreat
open Go.RowKit Go.Joins Go.SX
set_option maxRecDepth 1000000
noncomputable def kai1_0:Kp:=kE mai0 66 8 tai5
theorem kai1_0_ok:kai1_0.ok bai 262:=by kernel_rfl
noncomputable def kai1_1:Kp:=kE mai1 82 10 tai6
theorem kai1_1_ok:kai1_1.ok bai 262:=by kernel_rfl
noncomputable def kai1_2:Kp:=kE mai2 82 10 tai7
theorem kai1_2_ok:kai1_2.ok bai 262:=by kernel_rfl
noncomputable def kai1_3:Kp:=kE mai3 82 10 tai8
theorem kai1_3_ok:kai1_3.ok bai 262:=by kernel_rfl
noncomputable def kai1_4:Kp:=kE mai4 81 10 tai9
theorem kai1_4_ok:kai1_4.ok bai 262:=by kernel_rfl
noncomputable def kai4_0:Kp:=kE mai0 144 8 tai5
theorem kai4_0_ok:kai4_0.ok bai 138:=by kernel_rfl
noncomputable def kai4_1:Kp:=kE mai1 209 10 tai6
theorem kai4_1_ok:kai4_1.ok bai 138:=by kernel_rfl
noncomputable def kai4_2:Kp:=kE mai2 203 10 tai7
theorem kai4_2_ok:kai4_2.ok bai 138:=by kernel_rfl
noncomputable def kai4_3:Kp:=kE mai3 200 10 tai8
theorem kai4_3_ok:kai4_3.ok bai 138:=by kernel_rfl
noncomputable def kai4_4:Kp:=kE mai4 177 10 tai9
theorem kai4_4_ok:kai4_4.ok bai 138:=by kernel_rfl
noncomputable def kai4_5:Kp:=kE mai5 332 15 tai30
theorem kai4_5_ok:kai4_5.ok bai 138:=by kernel_rfl
noncomputable def kai4_6:Kp:=kE mai6 375 15 tai31
theorem kai4_6_ok:kai4_6.ok bai 138:=by kernel_rfl
noncomputable def kai4_7:Kp:=kE mai7 265 12 tai32
theorem kai4_7_ok:kai4_7.ok bai 138:=by kernel_rfl
noncomputable def kai4_8:Kp:=kE mai8 265 12 tai33
theorem kai4_8_ok:kai4_8.ok bai 138:=by kernel_rfl
noncomputable def kai4_9:Kp:=kE mai9 242 12 tai34
theorem kai4_9_ok:kai4_9.ok bai 138:=by kernel_rfl
noncomputable def kai4_10:Kp:=kE mai10 271 12 tai35
theorem kai4_10_ok:kai4_10.ok bai 138:=by kernel_rfl
noncomputable def kai4_11:Kp:=kE mai11 378 15 tai36
theorem kai4_11_ok:kai4_11.ok bai 138:=by kernel_rfl
noncomputable def kai4_12:Kp:=kE mai12 363 15 tai37
theorem kai4_12_ok:kai4_12.ok bai 138:=by kernel_rfl
noncomputable def kai4_13:Kp:=kE mai13 259 12 tai38
theorem kai4_13_ok:kai4_13.ok bai 138:=by kernel_rfl
noncomputable def kai4_14:Kp:=kE mai14 236 12 tai39
theorem kai4_14_ok:kai4_14.ok bai 138:=by kernel_rfl
noncomputable def kai4_15:Kp:=kE mai15 268 12 tai40
theorem kai4_15_ok:kai4_15.ok bai 138:=by kernel_rfl
noncomputable def kai4_16:Kp:=kE mai16 262 12 tai41
theorem kai4_16_ok:kai4_16.ok bai 138:=by kernel_rfl
noncomputable def kai4_17:Kp:=kE mai17 369 15 tai42
theorem kai4_17_ok:kai4_17.ok bai 138:=by kernel_rfl
noncomputable def kai4_18:Kp:=kE mai18 340 15 tai43
theorem kai4_18_ok:kai4_18.ok bai 138:=by kernel_rfl
noncomputable def kai4_19:Kp:=kE mai19 230 12 tai44
theorem kai4_19_ok:kai4_19.ok bai 138:=by kernel_rfl
noncomputable def kai4_20:Kp:=kE mai20 248 12 tai45
theorem kai4_20_ok:kai4_20.ok bai 138:=by kernel_rfl
noncomputable def kai4_21:Kp:=kE mai21 239 12 tai46
theorem kai4_21_ok:kai4_21.ok bai 138:=by kernel_rfl
noncomputable def kai4_22:Kp:=kE mai22 236 12 tai47
theorem kai4_22_ok:kai4_22.ok bai 138:=by kernel_rfl
noncomputable def kai4_23:Kp:=kE mai23 346 15 tai48
theorem kai4_23_ok:kai4_23.ok bai 138:=by kernel_rfl
noncomputable def kai4_24:Kp:=kE mai24 335 15 tai49
theorem kai4_24_ok:kai4_24.ok bai 138:=by kernel_rfl
noncomputable def oai1:Orcs:=withK 262 [kai1_0,kai1_1,kai1_2,kai1_3,kai1_4] bai
theorem oai1_ok:OkP parPc00 oai1:=withK2_ok (orcGZ_ok parPc00_ok exPc00_ok) (orcGZ_ok parPc00_ok exPc00_ok) ⟨kai1_0_ok,kai1_1_ok,kai1_2_ok,kai1_3_ok,kai1_4_ok,trivial⟩
noncomputable def oai2:Orcs:=withK 138 [kai4_0,kai4_1,kai4_2,kai4_3,kai4_4,kai4_5,kai4_6,kai4_7,kai4_8,kai4_9,kai4_10,kai4_11,kai4_12,kai4_13,kai4_14,kai4_15,kai4_16,kai4_17,kai4_18,kai4_19,kai4_20,kai4_21,kai4_22,kai4_23,kai4_24] bai
theorem oai2_ok:OkP parPc00 oai2:=withK2_ok (orcGZ_ok parPc00_ok exPc00_ok) (orcGZ_ok parPc00_ok exPc00_ok) ⟨kai4_0_ok,kai4_1_ok,kai4_2_ok,kai4_3_ok,kai4_4_ok,kai4_5_ok,kai4_6_ok,kai4_7_ok,kai4_8_ok,kai4_9_ok,kai4_10_ok,kai4_11_ok,kai4_12_ok,kai4_13_ok,kai4_14_ok,kai4_15_ok,kai4_16_ok,kai4_17_ok,kai4_18_ok,kai4_19_ok,kai4_20_ok,kai4_21_ok,kai4_22_ok,kai4_23_ok,kai4_24_ok,trivial⟩
end Go.Proofs.YtcblajhfehadaaaGreat
