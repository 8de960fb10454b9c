/-
 Shared texts (V12).
-/
import Derived.Test.YtcblajhfehadaaaGreatV11
namespace Go.Proofs.YtcblajhfehadaaaGreat
open Go.RowKit Go.Joins Go.SX
set_option maxRecDepth 1000000
noncomputable def kbi1_0:Kp:=kE mbi0 66 8 tbi5
theorem kbi1_0_ok:kbi1_0.ok bbi 262:=by kernel_rfl
noncomputable def kbi1_1:Kp:=kE mbi1 82 10 tbi6
theorem kbi1_1_ok:kbi1_1.ok bbi 262:=by kernel_rfl
noncomputable def kbi1_2:Kp:=kE mbi2 82 10 tbi7
theorem kbi1_2_ok:kbi1_2.ok bbi 262:=by kernel_rfl
noncomputable def kbi1_3:Kp:=kE mbi3 82 10 tbi8
theorem kbi1_3_ok:kbi1_3.ok bbi 262:=by kernel_rfl
noncomputable def kbi1_4:Kp:=kE mbi4 81 10 tbi9
theorem kbi1_4_ok:kbi1_4.ok bbi 262:=by kernel_rfl
noncomputable def kbi4_0:Kp:=kE mbi0 144 8 tbi5
theorem kbi4_0_ok:kbi4_0.ok bbi 138:=by kernel_rfl
noncomputable def kbi4_1:Kp:=kE mbi1 209 10 tbi6
theorem kbi4_1_ok:kbi4_1.ok bbi 138:=by kernel_rfl
noncomputable def kbi4_2:Kp:=kE mbi2 203 10 tbi7
theorem kbi4_2_ok:kbi4_2.ok bbi 138:=by kernel_rfl
noncomputable def kbi4_3:Kp:=kE mbi3 200 10 tbi8
theorem kbi4_3_ok:kbi4_3.ok bbi 138:=by kernel_rfl
noncomputable def kbi4_4:Kp:=kE mbi4 177 10 tbi9
theorem kbi4_4_ok:kbi4_4.ok bbi 138:=by kernel_rfl
noncomputable def kbi4_5:Kp:=kE mbi5 332 15 tbi30
theorem kbi4_5_ok:kbi4_5.ok bbi 138:=by kernel_rfl
noncomputable def kbi4_6:Kp:=kE mbi6 375 15 tbi31
theorem kbi4_6_ok:kbi4_6.ok bbi 138:=by kernel_rfl
noncomputable def kbi4_7:Kp:=kE mbi7 265 12 tbi32
theorem kbi4_7_ok:kbi4_7.ok bbi 138:=by kernel_rfl
noncomputable def kbi4_8:Kp:=kE mbi8 265 12 tbi33
theorem kbi4_8_ok:kbi4_8.ok bbi 138:=by kernel_rfl
noncomputable def kbi4_9:Kp:=kE mbi9 242 12 tbi34
theorem kbi4_9_ok:kbi4_9.ok bbi 138:=by kernel_rfl
noncomputable def kbi4_10:Kp:=kE mbi10 271 12 tbi35
theorem kbi4_10_ok:kbi4_10.ok bbi 138:=by kernel_rfl
noncomputable def kbi4_11:Kp:=kE mbi11 378 15 tbi36
theorem kbi4_11_ok:kbi4_11.ok bbi 138:=by kernel_rfl
noncomputable def kbi4_12:Kp:=kE mbi12 363 15 tbi37
theorem kbi4_12_ok:kbi4_12.ok bbi 138:=by kernel_rfl
noncomputable def kbi4_13:Kp:=kE mbi13 259 12 tbi38
theorem kbi4_13_ok:kbi4_13.ok bbi 138:=by kernel_rfl
noncomputable def kbi4_14:Kp:=kE mbi14 236 12 tbi39
theorem kbi4_14_ok:kbi4_14.ok bbi 138:=by kernel_rfl
noncomputable def kbi4_15:Kp:=kE mbi15 268 12 tbi40
theorem kbi4_15_ok:kbi4_15.ok bbi 138:=by kernel_rfl
noncomputable def kbi4_16:Kp:=kE mbi16 262 12 tbi41
theorem kbi4_16_ok:kbi4_16.ok bbi 138:=by kernel_rfl
noncomputable def kbi4_17:Kp:=kE mbi17 369 15 tbi42
theorem kbi4_17_ok:kbi4_17.ok bbi 138:=by kernel_rfl
noncomputable def kbi4_18:Kp:=kE mbi18 340 15 tbi43
theorem kbi4_18_ok:kbi4_18.ok bbi 138:=by kernel_rfl
noncomputable def kbi4_19:Kp:=kE mbi19 230 12 tbi44
theorem kbi4_19_ok:kbi4_19.ok bbi 138:=by kernel_rfl
noncomputable def kbi4_20:Kp:=kE mbi20 248 12 tbi45
theorem kbi4_20_ok:kbi4_20.ok bbi 138:=by kernel_rfl
noncomputable def kbi4_21:Kp:=kE mbi21 239 12 tbi46
theorem kbi4_21_ok:kbi4_21.ok bbi 138:=by kernel_rfl
noncomputable def kbi4_22:Kp:=kE mbi22 236 12 tbi47
theorem kbi4_22_ok:kbi4_22.ok bbi 138:=by kernel_rfl
noncomputable def kbi4_23:Kp:=kE mbi23 346 15 tbi48
theorem kbi4_23_ok:kbi4_23.ok bbi 138:=by kernel_rfl
noncomputable def kbi4_24:Kp:=kE mbi24 335 15 tbi49
theorem kbi4_24_ok:kbi4_24.ok bbi 138:=by kernel_rfl
noncomputable def obi1:Orcs:=withK 262 [kbi1_0,kbi1_1,kbi1_2,kbi1_3,kbi1_4] bbi
theorem obi1_ok:OkP parPc01 obi1:=withK2_ok (orcGZ_ok parPc01_ok exPc01_ok) (orcGZ_ok parPc01_ok exPc01_ok) ⟨kbi1_0_ok,kbi1_1_ok,kbi1_2_ok,kbi1_3_ok,kbi1_4_ok,trivial⟩
noncomputable def obi2:Orcs:=withK 138 [kbi4_0,kbi4_1,kbi4_2,kbi4_3,kbi4_4,kbi4_5,kbi4_6,kbi4_7,kbi4_8,kbi4_9,kbi4_10,kbi4_11,kbi4_12,kbi4_13,kbi4_14,kbi4_15,kbi4_16,kbi4_17,kbi4_18,kbi4_19,kbi4_20,kbi4_21,kbi4_22,kbi4_23,kbi4_24] bbi
theorem obi2_ok:OkP parPc01 obi2:=withK2_ok (orcGZ_ok parPc01_ok exPc01_ok) (orcGZ_ok parPc01_ok exPc01_ok) ⟨kbi4_0_ok,kbi4_1_ok,kbi4_2_ok,kbi4_3_ok,kbi4_4_ok,kbi4_5_ok,kbi4_6_ok,kbi4_7_ok,kbi4_8_ok,kbi4_9_ok,kbi4_10_ok,kbi4_11_ok,kbi4_12_ok,kbi4_13_ok,kbi4_14_ok,kbi4_15_ok,kbi4_16_ok,kbi4_17_ok,kbi4_18_ok,kbi4_19_ok,kbi4_20_ok,kbi4_21_ok,kbi4_22_ok,kbi4_23_ok,kbi4_24_ok,trivial⟩
end Go.Proofs.YtcblajhfehadaaaGreat
