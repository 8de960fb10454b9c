/-
 Shared texts (Q27).
-/
import Derived.Test.YtcblajhfehadaaaGreatQ26
namespace Go.Proofs.YtcblajhfehadaaaGreat
open Go.RowKit Go.Joins Go.SX
set_option maxRecDepth 1000000
noncomputable def kbh1_0:Kp:=kE mbh0 66 8 tbh5
theorem kbh1_0_ok:kbh1_0.ok bbh 262 = true:=by kernel_rfl
noncomputable def kbh1_1:Kp:=kE mbh1 82 10 tbh6
theorem kbh1_1_ok:kbh1_1.ok bbh 262 = true:=by kernel_rfl
noncomputable def kbh1_2:Kp:=kE mbh2 82 10 tbh7
theorem kbh1_2_ok:kbh1_2.ok bbh 262 = true:=by kernel_rfl
noncomputable def kbh1_3:Kp:=kE mbh3 82 10 tbh8
theorem kbh1_3_ok:kbh1_3.ok bbh 262 = true:=by kernel_rfl
noncomputable def kbh1_4:Kp:=kE mbh4 81 10 tbh9
theorem kbh1_4_ok:kbh1_4.ok bbh 262 = true:=by kernel_rfl
noncomputable def kbh4_0:Kp:=kE mbh0 144 8 tbh5
theorem kbh4_0_ok:kbh4_0.ok bbh 138 = true:=by kernel_rfl
noncomputable def kbh4_1:Kp:=kE mbh1 209 10 tbh6
theorem kbh4_1_ok:kbh4_1.ok bbh 138 = true:=by kernel_rfl
noncomputable def kbh4_2:Kp:=kE mbh2 203 10 tbh7
theorem kbh4_2_ok:kbh4_2.ok bbh 138 = true:=by kernel_rfl
noncomputable def kbh4_3:Kp:=kE mbh3 200 10 tbh8
theorem kbh4_3_ok:kbh4_3.ok bbh 138 = true:=by kernel_rfl
noncomputable def kbh4_4:Kp:=kE mbh4 177 10 tbh9
theorem kbh4_4_ok:kbh4_4.ok bbh 138 = true:=by kernel_rfl
noncomputable def kbh4_5:Kp:=kE mbh5 332 15 tbh30
theorem kbh4_5_ok:kbh4_5.ok bbh 138 = true:=by kernel_rfl
noncomputable def kbh4_6:Kp:=kE mbh6 375 15 tbh31
theorem kbh4_6_ok:kbh4_6.ok bbh 138 = true:=by kernel_rfl
noncomputable def kbh4_7:Kp:=kE mbh7 265 12 tbh32
theorem kbh4_7_ok:kbh4_7.ok bbh 138 = true:=by kernel_rfl
noncomputable def kbh4_8:Kp:=kE mbh8 265 12 tbh33
theorem kbh4_8_ok:kbh4_8.ok bbh 138 = true:=by kernel_rfl
noncomputable def kbh4_9:Kp:=kE mbh9 242 12 tbh34
theorem kbh4_9_ok:kbh4_9.ok bbh 138 = true:=by kernel_rfl
noncomputable def kbh4_10:Kp:=kE mbh10 271 12 tbh35
theorem kbh4_10_ok:kbh4_10.ok bbh 138 = true:=by kernel_rfl
noncomputable def kbh4_11:Kp:=kE mbh11 378 15 tbh36
theorem kbh4_11_ok:kbh4_11.ok bbh 138 = true:=by kernel_rfl
noncomputable def kbh4_12:Kp:=kE mbh12 363 15 tbh37
theorem kbh4_12_ok:kbh4_12.ok bbh 138 = true:=by kernel_rfl
noncomputable def kbh4_13:Kp:=kE mbh13 259 12 tbh38
theorem kbh4_13_ok:kbh4_13.ok bbh 138 = true:=by kernel_rfl
noncomputable def kbh4_14:Kp:=kE mbh14 236 12 tbh39
theorem kbh4_14_ok:kbh4_14.ok bbh 138 = true:=by kernel_rfl
noncomputable def kbh4_15:Kp:=kE mbh15 268 12 tbh40
theorem kbh4_15_ok:kbh4_15.ok bbh 138 = true:=by kernel_rfl
noncomputable def kbh4_16:Kp:=kE mbh16 262 12 tbh41
theorem kbh4_16_ok:kbh4_16.ok bbh 138 = true:=by kernel_rfl
noncomputable def kbh4_17:Kp:=kE mbh17 369 15 tbh42
theorem kbh4_17_ok:kbh4_17.ok bbh 138 = true:=by kernel_rfl
noncomputable def kbh4_18:Kp:=kE mbh18 340 15 tbh43
theorem kbh4_18_ok:kbh4_18.ok bbh 138 = true:=by kernel_rfl
noncomputable def kbh4_19:Kp:=kE mbh19 230 12 tbh44
theorem kbh4_19_ok:kbh4_19.ok bbh 138 = true:=by kernel_rfl
noncomputable def kbh4_20:Kp:=kE mbh20 248 12 tbh45
theorem kbh4_20_ok:kbh4_20.ok bbh 138 = true:=by kernel_rfl
noncomputable def kbh4_21:Kp:=kE mbh21 239 12 tbh46
theorem kbh4_21_ok:kbh4_21.ok bbh 138 = true:=by kernel_rfl
noncomputable def kbh4_22:Kp:=kE mbh22 236 12 tbh47
theorem kbh4_22_ok:kbh4_22.ok bbh 138 = true:=by kernel_rfl
noncomputable def kbh4_23:Kp:=kE mbh23 346 15 tbh48
theorem kbh4_23_ok:kbh4_23.ok bbh 138 = true:=by kernel_rfl
noncomputable def kbh4_24:Kp:=kE mbh24 335 15 tbh49
theorem kbh4_24_ok:kbh4_24.ok bbh 138 = true:=by kernel_rfl
noncomputable def obh1:Orcs:=withK 262 [kbh1_0,kbh1_1,kbh1_2,kbh1_3,kbh1_4] bbh
theorem obh1_ok:OkP parPb01 obh1:=withK2_ok (orcGS_ok parPb01_ok exPb01_ok) (orcGS_ok parPb01_ok exPb01_ok) ⟨kbh1_0_ok,kbh1_1_ok,kbh1_2_ok,kbh1_3_ok,kbh1_4_ok,trivial⟩
noncomputable def obh2:Orcs:=withK 138 [kbh4_0,kbh4_1,kbh4_2,kbh4_3,kbh4_4,kbh4_5,kbh4_6,kbh4_7,kbh4_8,kbh4_9,kbh4_10,kbh4_11,kbh4_12,kbh4_13,kbh4_14,kbh4_15,kbh4_16,kbh4_17,kbh4_18,kbh4_19,kbh4_20,kbh4_21,kbh4_22,kbh4_23,kbh4_24] bbh
theorem obh2_ok:OkP parPb01 obh2:=withK2_ok (orcGS_ok parPb01_ok exPb01_ok) (orcGS_ok parPb01_ok exPb01_ok) ⟨kbh4_0_ok,kbh4_1_ok,kbh4_2_ok,kbh4_3_ok,kbh4_4_ok,kbh4_5_ok,kbh4_6_ok,kbh4_7_ok,kbh4_8_ok,kbh4_9_ok,kbh4_10_ok,kbh4_11_ok,kbh4_12_ok,kbh4_13_ok,kbh4_14_ok,kbh4_15_ok,kbh4_16_ok,kbh4_17_ok,kbh4_18_ok,kbh4_19_ok,kbh4_20_ok,kbh4_21_ok,kbh4_22_ok,kbh4_23_ok,kbh4_24_ok,trivial⟩
end Go.Proofs.YtcblajhfehadaaaGreat
