/-
 Shared texts (V27).
-/
import Derived.Test.YtcblajhfehadaaaGreatV26
namespace Go.Proofs.YtcblajhfehadaaaGreat
open Go.RowKit Go.Joins Go.SX
set_option maxRecDepth 1000000
noncomputable def kgi1_0:Kp:=kE mgi0 104 13 tgi4
theorem kgi1_0_ok:kgi1_0.ok bgi 262:=by kernel_rfl
noncomputable def kgi1_1:Kp:=kE mgi1 131 16 tgi5
theorem kgi1_1_ok:kgi1_1.ok bgi 262:=by kernel_rfl
noncomputable def kgi1_2:Kp:=kE mgi2 131 16 tgi6
theorem kgi1_2_ok:kgi1_2.ok bgi 262:=by kernel_rfl
noncomputable def kgi1_3:Kp:=kE mgi3 130 16 tgi7
theorem kgi1_3_ok:kgi1_3.ok bgi 262:=by kernel_rfl
noncomputable def kgi4_0:Kp:=kE mgi0 284 13 tgi4
theorem kgi4_0_ok:kgi4_0.ok bgi 138:=by kernel_rfl
noncomputable def kgi4_1:Kp:=kE mgi1 391 16 tgi5
theorem kgi4_1_ok:kgi4_1.ok bgi 138:=by kernel_rfl
noncomputable def kgi4_2:Kp:=kE mgi2 403 16 tgi6
theorem kgi4_2_ok:kgi4_2.ok bgi 138:=by kernel_rfl
noncomputable def kgi4_3:Kp:=kE mgi3 383 16 tgi7
theorem kgi4_3_ok:kgi4_3.ok bgi 138:=by kernel_rfl
noncomputable def kgi4_4:Kp:=kE mgi4 659 22 tgi26
theorem kgi4_4_ok:kgi4_4.ok bgi 138:=by kernel_rfl
noncomputable def kgi4_5:Kp:=kE mgi5 471 18 tgi27
theorem kgi4_5_ok:kgi4_5.ok bgi 138:=by kernel_rfl
noncomputable def kgi4_6:Kp:=kE mgi6 465 18 tgi28
theorem kgi4_6_ok:kgi4_6.ok bgi 138:=by kernel_rfl
noncomputable def kgi4_7:Kp:=kE mgi7 606 22 tgi29
theorem kgi4_7_ok:kgi4_7.ok bgi 138:=by kernel_rfl
noncomputable def kgi4_8:Kp:=kE mgi8 516 19 tgi30
theorem kgi4_8_ok:kgi4_8.ok bgi 138:=by kernel_rfl
noncomputable def kgi4_9:Kp:=kE mgi9 493 19 tgi31
theorem kgi4_9_ok:kgi4_9.ok bgi 138:=by kernel_rfl
noncomputable def kgi4_10:Kp:=kE mgi10 516 19 tgi32
theorem kgi4_10_ok:kgi4_10.ok bgi 138:=by kernel_rfl
noncomputable def kgi4_11:Kp:=kE mgi11 465 18 tgi33
theorem kgi4_11_ok:kgi4_11.ok bgi 138:=by kernel_rfl
noncomputable def kgi4_12:Kp:=kE mgi12 459 18 tgi34
theorem kgi4_12_ok:kgi4_12.ok bgi 138:=by kernel_rfl
noncomputable def kgi4_13:Kp:=kE mgi13 462 18 tgi35
theorem kgi4_13_ok:kgi4_13.ok bgi 138:=by kernel_rfl
noncomputable def kgi4_14:Kp:=kE mgi14 659 22 tgi36
theorem kgi4_14_ok:kgi4_14.ok bgi 138:=by kernel_rfl
noncomputable def kgi4_15:Kp:=kE mgi15 505 19 tgi37
theorem kgi4_15_ok:kgi4_15.ok bgi 138:=by kernel_rfl
noncomputable def kgi4_16:Kp:=kE mgi16 499 19 tgi38
theorem kgi4_16_ok:kgi4_16.ok bgi 138:=by kernel_rfl
noncomputable def kgi4_17:Kp:=kE mgi17 508 19 tgi39
theorem kgi4_17_ok:kgi4_17.ok bgi 138:=by kernel_rfl
noncomputable def kgi4_18:Kp:=kE mgi18 609 22 tgi40
theorem kgi4_18_ok:kgi4_18.ok bgi 138:=by kernel_rfl
noncomputable def kgi4_19:Kp:=kE mgi19 439 18 tgi41
theorem kgi4_19_ok:kgi4_19.ok bgi 138:=by kernel_rfl
noncomputable def kgi4_20:Kp:=kE mgi20 439 18 tgi42
theorem kgi4_20_ok:kgi4_20.ok bgi 138:=by kernel_rfl
noncomputable def kgi4_21:Kp:=kE mgi21 422 18 tgi43
theorem kgi4_21_ok:kgi4_21.ok bgi 138:=by kernel_rfl
noncomputable def ogi1:Orcs:=withK 262 [kgi1_0,kgi1_1,kgi1_2,kgi1_3] bgi
theorem ogi1_ok:OkP parPc20 ogi1:=withK2_ok (orcGZ_ok parPc20_ok exPc20_ok) (orcGZ_ok parPc20_ok exPc20_ok) ⟨kgi1_0_ok,kgi1_1_ok,kgi1_2_ok,kgi1_3_ok,trivial⟩
noncomputable def ogi2:Orcs:=withK 138 [kgi4_0,kgi4_1,kgi4_2,kgi4_3,kgi4_4,kgi4_5,kgi4_6,kgi4_7,kgi4_8,kgi4_9,kgi4_10,kgi4_11,kgi4_12,kgi4_13,kgi4_14,kgi4_15,kgi4_16,kgi4_17,kgi4_18,kgi4_19,kgi4_20,kgi4_21] bgi
theorem ogi2_ok:OkP parPc20 ogi2:=withK2_ok (orcGZ_ok parPc20_ok exPc20_ok) (orcGZ_ok parPc20_ok exPc20_ok) ⟨kgi4_0_ok,kgi4_1_ok,kgi4_2_ok,kgi4_3_ok,kgi4_4_ok,kgi4_5_ok,kgi4_6_ok,kgi4_7_ok,kgi4_8_ok,kgi4_9_ok,kgi4_10_ok,kgi4_11_ok,kgi4_12_ok,kgi4_13_ok,kgi4_14_ok,kgi4_15_ok,kgi4_16_ok,kgi4_17_ok,kgi4_18_ok,kgi4_19_ok,kgi4_20_ok,kgi4_21_ok,trivial⟩
end Go.Proofs.YtcblajhfehadaaaGreat
