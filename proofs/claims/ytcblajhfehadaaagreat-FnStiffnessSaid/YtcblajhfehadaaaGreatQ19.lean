/-
 Shared texts (Q19).
-/
import Derived.Test.YtcblajhfehadaaaGreatQ18
namespace Go.Proofs.YtcblajhfehadaaaGreat
open Go.RowKit Go.Joins Go.SX
set_option maxRecDepth 1000000
noncomputable def kah1_0:Kp:=kE mah0 66 8 tah5
theorem kah1_0_ok:kah1_0.ok bah 262 = true:=by kernel_rfl
noncomputable def kah1_1:Kp:=kE mah1 82 10 tah6
theorem kah1_1_ok:kah1_1.ok bah 262 = true:=by kernel_rfl
noncomputable def kah1_2:Kp:=kE mah2 82 10 tah7
theorem kah1_2_ok:kah1_2.ok bah 262 = true:=by kernel_rfl
noncomputable def kah1_3:Kp:=kE mah3 82 10 tah8
theorem kah1_3_ok:kah1_3.ok bah 262 = true:=by kernel_rfl
noncomputable def kah1_4:Kp:=kE mah4 81 10 tah9
theorem kah1_4_ok:kah1_4.ok bah 262 = true:=by kernel_rfl
noncomputable def kah4_0:Kp:=kE mah0 144 8 tah5
theorem kah4_0_ok:kah4_0.ok bah 138 = true:=by kernel_rfl
noncomputable def kah4_1:Kp:=kE mah1 209 10 tah6
theorem kah4_1_ok:kah4_1.ok bah 138 = true:=by kernel_rfl
noncomputable def kah4_2:Kp:=kE mah2 203 10 tah7
theorem kah4_2_ok:kah4_2.ok bah 138 = true:=by kernel_rfl
noncomputable def kah4_3:Kp:=kE mah3 200 10 tah8
theorem kah4_3_ok:kah4_3.ok bah 138 = true:=by kernel_rfl
noncomputable def kah4_4:Kp:=kE mah4 177 10 tah9
theorem kah4_4_ok:kah4_4.ok bah 138 = true:=by kernel_rfl
noncomputable def kah4_5:Kp:=kE mah5 332 15 tah30
theorem kah4_5_ok:kah4_5.ok bah 138 = true:=by kernel_rfl
noncomputable def kah4_6:Kp:=kE mah6 375 15 tah31
theorem kah4_6_ok:kah4_6.ok bah 138 = true:=by kernel_rfl
noncomputable def kah4_7:Kp:=kE mah7 265 12 tah32
theorem kah4_7_ok:kah4_7.ok bah 138 = true:=by kernel_rfl
noncomputable def kah4_8:Kp:=kE mah8 265 12 tah33
theorem kah4_8_ok:kah4_8.ok bah 138 = true:=by kernel_rfl
noncomputable def kah4_9:Kp:=kE mah9 242 12 tah34
theorem kah4_9_ok:kah4_9.ok bah 138 = true:=by kernel_rfl
noncomputable def kah4_10:Kp:=kE mah10 271 12 tah35
theorem kah4_10_ok:kah4_10.ok bah 138 = true:=by kernel_rfl
noncomputable def kah4_11:Kp:=kE mah11 378 15 tah36
theorem kah4_11_ok:kah4_11.ok bah 138 = true:=by kernel_rfl
noncomputable def kah4_12:Kp:=kE mah12 363 15 tah37
theorem kah4_12_ok:kah4_12.ok bah 138 = true:=by kernel_rfl
noncomputable def kah4_13:Kp:=kE mah13 259 12 tah38
theorem kah4_13_ok:kah4_13.ok bah 138 = true:=by kernel_rfl
noncomputable def kah4_14:Kp:=kE mah14 236 12 tah39
theorem kah4_14_ok:kah4_14.ok bah 138 = true:=by kernel_rfl
noncomputable def kah4_15:Kp:=kE mah15 268 12 tah40
theorem kah4_15_ok:kah4_15.ok bah 138 = true:=by kernel_rfl
noncomputable def kah4_16:Kp:=kE mah16 262 12 tah41
theorem kah4_16_ok:kah4_16.ok bah 138 = true:=by kernel_rfl
noncomputable def kah4_17:Kp:=kE mah17 369 15 tah42
theorem kah4_17_ok:kah4_17.ok bah 138 = true:=by kernel_rfl
noncomputable def kah4_18:Kp:=kE mah18 340 15 tah43
theorem kah4_18_ok:kah4_18.ok bah 138 = true:=by kernel_rfl
noncomputable def kah4_19:Kp:=kE mah19 230 12 tah44
theorem kah4_19_ok:kah4_19.ok bah 138 = true:=by kernel_rfl
noncomputable def kah4_20:Kp:=kE mah20 248 12 tah45
theorem kah4_20_ok:kah4_20.ok bah 138 = true:=by kernel_rfl
noncomputable def kah4_21:Kp:=kE mah21 239 12 tah46
theorem kah4_21_ok:kah4_21.ok bah 138 = true:=by kernel_rfl
noncomputable def kah4_22:Kp:=kE mah22 236 12 tah47
theorem kah4_22_ok:kah4_22.ok bah 138 = true:=by kernel_rfl
noncomputable def kah4_23:Kp:=kE mah23 346 15 tah48
theorem kah4_23_ok:kah4_23.ok bah 138 = true:=by kernel_rfl
noncomputable def kah4_24:Kp:=kE mah24 335 15 tah49
theorem kah4_24_ok:kah4_24.ok bah 138 = true:=by kernel_rfl
noncomputable def oah1:Orcs:=withK 262 [kah1_0,kah1_1,kah1_2,kah1_3,kah1_4] bah
theorem oah1_ok:OkP parPb00 oah1:=withK2_ok (orcGS_ok parPb00_ok exPb00_ok) (orcGS_ok parPb00_ok exPb00_ok) ⟨kah1_0_ok,kah1_1_ok,kah1_2_ok,kah1_3_ok,kah1_4_ok,trivial⟩
noncomputable def oah2:Orcs:=withK 138 [kah4_0,kah4_1,kah4_2,kah4_3,kah4_4,kah4_5,kah4_6,kah4_7,kah4_8,kah4_9,kah4_10,kah4_11,kah4_12,kah4_13,kah4_14,kah4_15,kah4_16,kah4_17,kah4_18,kah4_19,kah4_20,kah4_21,kah4_22,kah4_23,kah4_24] bah
theorem oah2_ok:OkP parPb00 oah2:=withK2_ok (orcGS_ok parPb00_ok exPb00_ok) (orcGS_ok parPb00_ok exPb00_ok) ⟨kah4_0_ok,kah4_1_ok,kah4_2_ok,kah4_3_ok,kah4_4_ok,kah4_5_ok,kah4_6_ok,kah4_7_ok,kah4_8_ok,kah4_9_ok,kah4_10_ok,kah4_11_ok,kah4_12_ok,kah4_13_ok,kah4_14_ok,kah4_15_ok,kah4_16_ok,kah4_17_ok,kah4_18_ok,kah4_19_ok,kah4_20_ok,kah4_21_ok,kah4_22_ok,kah4_23_ok,kah4_24_ok,trivial⟩
end Go.Proofs.YtcblajhfehadaaaGreat
